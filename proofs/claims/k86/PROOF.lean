import PyProof.Rows.All
import Wide.All
import OpenK.AllK
import Wide.FinOn
import KE.KStateDown
import HandS.ForMost
import HandS.ForExc
import HandS.Defaults
import HandS.TupAny
import HandS.Deep
import HandS.Text
import HandS.Strs
import HandS.WordsDict
import HandS.Flow
import HandS.CallSlots
import HandS.ExcCtx
import HandS.Star
import HandS.IsInst
import HandS.Property
import HandS.MakeKwOnly
import HandS.OwnEq
import HandS.Small
import HandS.Iter
import KE.KExcSuper
import KE.KSuper
import HandS.ExcSuper
import HandS.ExcIs
import HandS.ExcField
import KE.KExcIs
import HandS.HotCalls
import HandS.Comp
import HandS.HeadHook4
import HandS.Words
import HandS.HeadEnd
import HandS.Head0
import HandS.Head1
import HandS.Head2
import PySem.Challenge.RW_sureplay_k86_lines_of_edits
set_option Elab.async false
set_option linter.all false
set_option autoImplicit false
set_option maxRecDepth 100000
set_option maxHeartbeats 4000000
namespace Z
open PySem L2

/-! ### plain data -/
inductive DK where
  | i (n : Int)
  | s (x : List Nat)
  deriving DecidableEq
inductive D where
  | non
  | bl (b : Bool)
  | int (i : Int)
  | str (x : List Nat)
  | tup (ds : List D)
  | lst (ds : List D)
  | frl (ds : List D)
  | dct (ks : List DK) (vs : List D)
  | obj (c : Nat) (ns : List Nat) (vs : List D)
  | ref (n : Nat)
/-- what stands in the store -/
inductive MO where
  | lst (ds : List D)
  | dct (ks : List DK) (vs : List D)
  | ins (c : Nat) (ns : List Nat) (vs : List D)
structure Sto where
  nx : Nat
  m : Nat → Option MO
/-- a slot -/
inductive SV where
  | non
  | val (d : D)
  | brw (d : D)
  | own (o : MO)
  | exc (k : Nat) (d : D)

/-! ### the text's names -/
structure Cz where
  K : PySem.W.Frag
  ca : Nat → Addr
  an : Nat → Str
  /-- the exception that an except suite holds: where it stands, its class, its dict, its field -/
  xa : Addr → Nat → Addr → Str → Prop

/-! ### worlds -/
structure Wd where
  F : Hp
  rh : Nat → Addr
  nx : Nat
structure Wle (w w' : Wd) : Prop where
  F : ∀ a o, w.F a = some o → w'.F a = some o
  nx : w.nx ≤ w'.nx
  rh : ∀ n, n < w.nx → w'.rh n = w.rh n
theorem Wle.refl (w : Wd) : Wle w w := ⟨fun _ _ h => h, Nat.le_refl _, fun _ _ => rfl⟩
theorem Wle.trans {a b c : Wd} (h : Wle a b) (k : Wle b c) : Wle a c :=
  ⟨fun x o e => k.F x o (h.F x o e), Nat.le_trans h.nx k.nx, fun n hn => (k.rh n (Nat.lt_of_lt_of_le hn h.nx)).trans (h.rh n hn)⟩

def sS (x : List Nat) : Str := ⟨x.toArray⟩
def okS (x : List Nat) : Prop := ∀ c ∈ x, c < 1114112
def kK : DK → Key
  | .i n => .inl n
  | .s x => .inr (sS x)
def okK : DK → Prop
  | .i _ => True
  | .s x => okS x

/-! ### how data lie in the heap -/
mutual
def R (c : Cz) (w : Wd) : D → V → Prop
  | .non, v => v = .non
  | .bl b, v => v = .bl b
  | .int i, v => v = .int i
  | .str x, v => v = .str (sS x) ∧ okS x
  | .tup ds, v => ∃ a xs, v = .ref a ∧ SqT c.K w.F a xs ∧ Rs c w ds xs
  | .lst ds, v => ∃ a xs, v = .ref a ∧ w.F a = some (.lst xs) ∧ Rs c w ds xs
  | .frl ds, v => ∃ a xs, v = .ref a ∧ SqL c.K w.F a xs ∧ Rs c w ds xs
  | .dct ks vs, v => ∃ a kvs, v = .ref a ∧ w.F a = some (.dK kvs) ∧ kvs.map (·.1) = ks.map kK ∧ (∀ k ∈ ks, okK k) ∧ Rs c w vs (kvs.map (·.2))
  | .obj k ns vs, v => ∃ a dx fs, v = .ref a ∧ w.F a = some (.ins (c.ca k) dx fs) ∧ fs.map (·.1) = ns.map c.an ∧ Rs c w vs (fs.map (·.2))
  | .ref n, v => v = .ref (w.rh n) ∧ n < w.nx
def Rs (c : Cz) (w : Wd) : List D → List V → Prop
  | [], vs => vs = []
  | d :: ds, vs => ∃ x xs, vs = x :: xs ∧ R c w d x ∧ Rs c w ds xs
end
section
variable {c : Cz} {w w' : Wd}
theorem Rd.le {a : Addr} {o : HO} (h : Wle w w') (r : Rd w.F a o) : Rd w'.F a o := by
  rcases r with r | ⟨ob, r⟩
  · exact .inl (h.F _ _ r)
  · exact .inr ⟨ob, h.F _ _ r⟩
theorem SqT_le {K : PySem.W.Frag} {a : Addr} {xs : List V} (h : Wle w w') (r : SqT K w.F a xs) : SqT K w'.F a xs := by
  rcases r with r | r
  · exact .inl (Rd.le h r)
  · exact .inr r
theorem SqL_le {K : PySem.W.Frag} {a : Addr} {xs : List V} (h : Wle w w') (r : SqL K w.F a xs) : SqL K w'.F a xs := by
  rcases r with r | r
  · exact .inl (Rd.le h r)
  · exact .inr r
mutual
theorem R.le (h : Wle w w') : ∀ (d : D) (v : V), R c w d v → R c w' d v
  | .non, _, r => r
  | .bl _, _, r => r
  | .int _, _, r => r
  | .str _, _, r => r
  | .tup ds, _, ⟨a, xs, e, q, r⟩ => ⟨a, xs, e, SqT_le h q, Rs.le h ds xs r⟩
  | .lst ds, _, ⟨a, xs, e, q, r⟩ => ⟨a, xs, e, h.F _ _ q, Rs.le h ds xs r⟩
  | .frl ds, _, ⟨a, xs, e, q, r⟩ => ⟨a, xs, e, SqL_le h q, Rs.le h ds xs r⟩
  | .dct _ vs, _, ⟨a, kvs, e, q, z, z', r⟩ => ⟨a, kvs, e, h.F _ _ q, z, z', Rs.le h vs _ r⟩
  | .obj _ _ vs, _, ⟨a, dx, fs, e, q, z, r⟩ => ⟨a, dx, fs, e, h.F _ _ q, z, Rs.le h vs _ r⟩
  | .ref n, _, ⟨e, q⟩ => ⟨by rw [e, h.rh n q], Nat.lt_of_lt_of_le q h.nx⟩
theorem Rs.le (h : Wle w w') : ∀ (ds : List D) (vs : List V), Rs c w ds vs → Rs c w' ds vs
  | [], _, r => r
  | d :: ds, _, ⟨x, xs, e, r, q⟩ => ⟨x, xs, e, R.le h d x r, Rs.le h ds xs q⟩
end
theorem Rs.length : ∀ {ds : List D} {vs : List V}, Rs c w ds vs → vs.length = ds.length
  | [], _, r => by cases r; rfl
  | _ :: ds, _, ⟨_, _, e, _, q⟩ => by subst e; simp [Rs.length q]
theorem Rs.get : ∀ {ds : List D} {vs : List V} {i : Nat} {d : D}, Rs c w ds vs → ds[i]? = some d → ∃ v, vs[i]? = some v ∧ R c w d v
  | [], _, _, _, _, e => by simp at e
  | d :: ds, _, 0, _, ⟨x, xs, e, r, q⟩, h => by subst e; simp at h; subst h; exact ⟨x, rfl, r⟩
  | d :: ds, _, i + 1, _, ⟨x, xs, e, r, q⟩, h => by
    subst e
    obtain ⟨v, h1, h2⟩ := Rs.get (i := i) q (by simpa using h)
    exact ⟨v, by simpa using h1, h2⟩
theorem Rs.app : ∀ {ds es : List D} {vs us : List V}, Rs c w ds vs → Rs c w es us → Rs c w (ds ++ es) (vs ++ us)
  | [], _, _, _, r, q => by cases r; exact q
  | d :: ds, _, _, _, ⟨x, xs, e, r, z⟩, q => by subst e; exact ⟨x, xs ++ _, rfl, r, Rs.app z q⟩
theorem Rs.take : ∀ (n : Nat) {ds : List D} {vs : List V}, Rs c w ds vs → Rs c w (ds.take n) (vs.take n)
  | 0, _, _, _ => by simp [Rs]
  | n + 1, [], _, r => by cases r; simp [Rs]
  | n + 1, d :: ds, _, ⟨x, xs, e, r, q⟩ => by subst e; exact ⟨x, xs.take n, rfl, r, Rs.take n q⟩
theorem Rs.drop : ∀ (n : Nat) {ds : List D} {vs : List V}, Rs c w ds vs → Rs c w (ds.drop n) (vs.drop n)
  | 0, _, _, r => r
  | n + 1, [], _, r => by cases r; simp [Rs]
  | n + 1, d :: ds, _, ⟨x, xs, e, r, q⟩ => by subst e; exact Rs.drop n q
theorem Rs.set : ∀ (i : Nat) {ds : List D} {vs : List V} {d : D} {v : V}, Rs c w ds vs → R c w d v → Rs c w (ds.set i d) (vs.set i v)
  | _, [], _, _, _, r, _ => by cases r; simp [Rs]
  | 0, d :: ds, _, _, _, ⟨x, xs, e, r, q⟩, h => by subst e; exact ⟨_, xs, rfl, h, q⟩
  | i + 1, d :: ds, _, _, _, ⟨x, xs, e, r, q⟩, h => by subst e; exact ⟨x, xs.set i _, rfl, r, Rs.set i q h⟩
end
def MOr (c : Cz) (w : Wd) (o : HO) : MO → Prop
  | .lst ds => ∃ vs, o = .lst vs ∧ Rs c w ds vs
  | .dct ks ds => ∃ kvs, o = .dK kvs ∧ kvs.map (·.1) = ks.map kK ∧ (∀ k ∈ ks, okK k) ∧ Rs c w ds (kvs.map (·.2))
  | .ins k ns ds => ∃ dx fs, o = .ins (c.ca k) dx fs ∧ fs.map (·.1) = ns.map c.an ∧ Rs c w ds (fs.map (·.2))
theorem MOr.le {c : Cz} {w w' : Wd} {o : HO} {mo : MO} (h : Wle w w') (r : MOr c w o mo) : MOr c w' o mo := by
  cases mo with
  | lst ds => obtain ⟨vs, e, r⟩ := r; exact ⟨vs, e, Rs.le h _ _ r⟩
  | dct ks ds => obtain ⟨kvs, e, z, z', r⟩ := r; exact ⟨kvs, e, z, z', Rs.le h _ _ r⟩
  | ins k ns ds => obtain ⟨dx, fs, e, z, r⟩ := r; exact ⟨dx, fs, e, z, Rs.le h _ _ r⟩

/-! ### the store, the slots -/
structure MR (c : Cz) (w : Wd) (M : Sto) (H : Hp) : Prop where
  nx : M.nx = w.nx
  sub : ∀ a o, w.F a = some o → H a = some o
  st : ∀ n mo, M.m n = some mo → n < w.nx ∧ w.F (w.rh n) = none ∧ ∃ o, H (w.rh n) = some o ∧ MOr c w o mo
  inj : ∀ n n' mo mo', M.m n = some mo → M.m n' = some mo' → w.rh n = w.rh n' → n = n'
/-- an address of the store -/
def InM (w : Wd) (M : Sto) (a : Addr) : Prop := ∃ n mo, M.m n = some mo ∧ w.rh n = a
structure Keep (w : Wd) (M : Sto) (H : Hp) (w' : Wd) (M' : Sto) (H' : Hp) : Prop where
  le : Wle w w'
  keep : ∀ a o, H a = some o → ¬ InM w M a → H' a = some o
  fnew : ∀ a o, w'.F a = some o → w.F a = none → H a = none ∨ InM w M a
  rnew : ∀ a, InM w' M' a → H a = none ∨ InM w M a
  th : ∀ a, H' a = none → H a = none
theorem Keep.refl {w : Wd} {M : Sto} {H : Hp} : Keep w M H w M H := ⟨.refl w, fun _ _ h _ => h, fun a o h k => (by rw [h] at k; cases k), fun a h => .inr h, fun _ h => h⟩
theorem Keep.trans {w0 w1 w2 : Wd} {M0 M1 M2 : Sto} {H0 H1 H2 : Hp} (h : Keep w0 M0 H0 w1 M1 H1) (k : Keep w1 M1 H1 w2 M2 H2) : Keep w0 M0 H0 w2 M2 H2 := by
  have nin : ∀ a o, H0 a = some o → ¬ InM w0 M0 a → ¬ InM w1 M1 a := fun a o e n z => by
    rcases h.rnew a z with q | q
    · rw [e] at q; cases q
    · exact n q
  refine ⟨h.le.trans k.le, fun a o e n => k.keep a o (h.keep a o e n) (nin a o e n), fun a o e n => ?_, fun a z => ?_, fun a z => h.th a (k.th a z)⟩
  · cases e1 : w1.F a with
    | some o1 => exact h.fnew a o1 e1 n
    | none =>
      rcases k.fnew a o e e1 with q | q
      · cases e0 : H0 a with
        | none => exact .inl rfl
        | some o0 =>
          by_cases hi : InM w0 M0 a
          · exact .inr hi
          · rw [h.keep a o0 e0 hi] at q; cases q
      · exact h.rnew a q
  · rcases k.rnew a z with q | q
    · cases e0 : H0 a with
      | none => exact .inl rfl
      | some o0 =>
        by_cases hi : InM w0 M0 a
        · exact .inr hi
        · rw [h.keep a o0 e0 hi] at q; cases q
    · exact h.rnew a q
/-- the value of an object that is read -/
def thaw : MO → Option D
  | .lst ds => some (.lst ds)
  | .dct ks vs => some (.dct ks vs)
  | .ins _ _ _ => none
/-- data, or an object that another one owns (it is read while it stays as it is) -/
def RB (c : Cz) (w : Wd) (M : Sto) (H : Hp) (d : D) (v : V) : Prop :=
  R c w d v ∨ ∃ p o mo, v = .ref p ∧ H p = some o ∧ MOr c w o mo ∧ w.F p = none ∧ ¬ InM w M p ∧ thaw mo = some d
theorem own_keep {c : Cz} {w w' : Wd} {M M' : Sto} {H H' : Hp} {p : Addr} {o : HO} {mo : MO} (h2 : H p = some o) (h3 : MOr c w o mo) (h4 : w.F p = none) (h5 : ¬ InM w M p) (k : Keep w M H w' M' H') :
    H' p = some o ∧ MOr c w' o mo ∧ w'.F p = none ∧ ¬ InM w' M' p := by
  refine ⟨k.keep p o h2 h5, h3.le k.le, ?_, fun z => ?_⟩
  · cases e1 : w'.F p with
    | none => rfl
    | some o1 =>
      rcases k.fnew p o1 e1 h4 with q | q
      · rw [h2] at q; cases q
      · exact (h5 q).elim
  · rcases k.rnew p z with q | q
    · rw [h2] at q; cases q
    · exact h5 q
theorem RB.keep {c : Cz} {w w' : Wd} {M M' : Sto} {H H' : Hp} {d : D} {v : V} (r : RB c w M H d v) (k : Keep w M H w' M' H') : RB c w' M' H' d v := by
  rcases r with r | ⟨p, o, mo, e, h2, h3, h4, h5, h6⟩
  · exact .inl (R.le k.le d v r)
  · obtain ⟨g2, g3, g4, g5⟩ := own_keep h2 h3 h4 h5 k
    exact .inr ⟨p, o, mo, e, g2, g3, g4, g5, h6⟩
/-- the slots; own objects: at places of their own -/
structure SLr (c : Cz) (w : Wd) (M : Sto) (H : Hp) (σ : List SV) (τ : St) : Prop where
  len : σ.length = τ.length
  val : ∀ (i : Nat) (d : D), σ[i]? = some (.val d) → ∃ v, τ[i]? = some (some v) ∧ R c w d v
  brw : ∀ (i : Nat) (d : D), σ[i]? = some (.brw d) → ∃ v, τ[i]? = some (some v) ∧ RB c w M H d v
  own : ∀ (i : Nat) (mo : MO), σ[i]? = some (.own mo) → ∃ p o, τ[i]? = some (some (.ref p)) ∧ H p = some o ∧ MOr c w o mo ∧ w.F p = none ∧ ¬ InM w M p
  dis : ∀ (i j : Nat) (mo mo' : MO), σ[i]? = some (.own mo) → σ[j]? = some (.own mo') → τ[i]? = τ[j]? → i = j
  exc : ∀ (i k : Nat) (d : D), σ[i]? = some (.exc k d) → ∃ a dd f v, τ[i]? = some (some (.ref a)) ∧ c.xa a k dd f ∧ H dd = some (.xd [(f, v)]) ∧ R c w d v ∧ w.F dd = none ∧ ¬ InM w M dd
theorem xd_keep {w w' : Wd} {M M' : Sto} {H H' : Hp} {p : Addr} {o : HO} (h2 : H p = some o) (h4 : w.F p = none) (h5 : ¬ InM w M p) (k : Keep w M H w' M' H') :
    H' p = some o ∧ w'.F p = none ∧ ¬ InM w' M' p := by
  refine ⟨k.keep p o h2 h5, ?_, fun z => ?_⟩
  · cases e1 : w'.F p with
    | none => rfl
    | some o1 =>
      rcases k.fnew p o1 e1 h4 with q | q
      · rw [h2] at q; cases q
      · exact (h5 q).elim
  · rcases k.rnew p z with q | q
    · rw [h2] at q; cases q
    · exact h5 q
theorem SLr.keep {c : Cz} {w w' : Wd} {M M' : Sto} {H H' : Hp} {σ : List SV} {τ : St} (r : SLr c w M H σ τ) (k : Keep w M H w' M' H') : SLr c w' M' H' σ τ := by
  refine ⟨r.len, fun i d e => ?_, fun i d e => ?_, fun i mo e => ?_, r.dis, fun i j d e => ?_⟩
  · obtain ⟨v, h1, h2⟩ := r.val i d e
    exact ⟨v, h1, R.le k.le d v h2⟩
  · obtain ⟨v, h1, h2⟩ := r.brw i d e
    exact ⟨v, h1, h2.keep k⟩
  · obtain ⟨p, o, h1, h2, h3, h4, h5⟩ := r.own i mo e
    exact ⟨p, o, h1, own_keep h2 h3 h4 h5 k⟩
  · obtain ⟨a, dd, f, v, h1, h2, h3, h4, h5, h6⟩ := r.exc i j d e
    obtain ⟨g1, g2, g3⟩ := xd_keep h3 h5 h6 k
    exact ⟨a, dd, f, v, h1, h2, g1, R.le k.le d v h4, g2, g3⟩

def RBs (c : Cz) (w : Wd) (M : Sto) (H : Hp) : List D → List V → Prop
  | [], vs => vs = []
  | d :: ds, vs => ∃ x xs, vs = x :: xs ∧ RB c w M H d x ∧ RBs c w M H ds xs
theorem RBs.keep {c : Cz} {w w' : Wd} {M M' : Sto} {H H' : Hp} (k : Keep w M H w' M' H') : ∀ {ds : List D} {vs : List V}, RBs c w M H ds vs → RBs c w' M' H' ds vs
  | [], _, r => r
  | _ :: _, _, ⟨x, xs, e, r, q⟩ => ⟨x, xs, e, r.keep k, RBs.keep k q⟩

/-! ### results -/
inductive Res where
  | ok (d : D) (M : Sto)
  | exc (k : Nat) (d : D) (M : Sto)
  | bad
def Res.bind (r : Res) (f : D → Sto → Res) : Res := match r with
  | .ok d M => f d M
  | .exc k d M => .exc k d M
  | .bad => .bad
inductive Ress where
  | ok (ds : List D) (M : Sto)
  | exc (k : Nat) (d : D) (M : Sto)
  | bad
/-- the exceptions: class k stands at ea k, its field is named ef k -/
structure Ez where
  ea : Nat → Addr
  ef : Nat → Str
def ExcAt (c : Cz) (z : Ez) (E : XK) (w : Wd) (M : Sto) (H : Hp) (k : Nat) (d : D) (M' : Sto) : Prop :=
  ∀ w' H' dd v, Keep w M H w' M' H' → MR c w' M' H' → R c w' d v → H' dd = some (.xd [(z.ef k, v)]) → w'.F dd = none → ¬ InM w' M' dd → E (.ref (z.ea k)) (some dd) H'
/-- what a result promises -/
def Sat (c : Cz) (z : Ez) (E : XK) (w : Wd) (M : Sto) (H : Hp) (r : Res) (Q : VK) : Prop := match r with
  | .ok d M' => ∀ w' H' v, Keep w M H w' M' H' → MR c w' M' H' → R c w' d v → Q v H'
  | .exc k d M' => ExcAt c z E w M H k d M'
  | .bad => False
def Sats (c : Cz) (z : Ez) (E : XK) (w : Wd) (M : Sto) (H : Hp) (r : Ress) (Q : List V → Hp → Prop) : Prop := match r with
  | .ok ds M' => ∀ w' H' vs, Keep w M H w' M' H' → MR c w' M' H' → Rs c w' ds vs → Q vs H'
  | .exc k d M' => ExcAt c z E w M H k d M'
  | .bad => False
section
variable {c : Cz} {z : Ez} {E : XK} {w w1 : Wd} {M M1 : Sto} {H H1 : Hp} {Q : VK} {r : Res}
theorem ExcAt.step {k : Nat} {d : D} {M' : Sto} (h : ExcAt c z E w M H k d M') (q : Keep w M H w1 M1 H1) : ExcAt c z E w1 M1 H1 k d M' :=
  fun w' H' dd v h1 h2 h3 h4 h5 h6 => h w' H' dd v (q.trans h1) h2 h3 h4 h5 h6
theorem Sat.step (h : Sat c z E w M H r Q) (q : Keep w M H w1 M1 H1) : Sat c z E w1 M1 H1 r Q := by
  cases r with
  | ok d M' => exact fun w' H' v h1 h2 h3 => h w' H' v (q.trans h1) h2 h3
  | exc k d M' => exact ExcAt.step h q
  | bad => exact h
theorem Sats.step {r : Ress} {Q : List V → Hp → Prop} (h : Sats c z E w M H r Q) (q : Keep w M H w1 M1 H1) : Sats c z E w1 M1 H1 r Q := by
  cases r with
  | ok d M' => exact fun w' H' v h1 h2 h3 => h w' H' v (q.trans h1) h2 h3
  | exc k d M' => exact ExcAt.step h q
  | bad => exact h
theorem Sat.here {d : D} {v : V} (h : Sat c z E w M H (.ok d M) Q) (m : MR c w M H) (r : R c w d v) : Q v H := h w H v .refl m r
end

/-! ### an expression's reading -/
/-- a state of a body: world, slots, store -/
structure SR (c : Cz) (w : Wd) (σ : List SV) (M : Sto) (τ : St) (H : Hp) : Prop where
  m : MR c w M H
  s : SLr c w M H σ τ
theorem SR.keep {c : Cz} {w w' : Wd} {M M' : Sto} {H H' : Hp} {σ : List SV} {τ : St} (r : SR c w σ M τ H) (k : Keep w M H w' M' H') (m : MR c w' M' H') : SR c w' σ M' τ H' := ⟨m, r.s.keep k⟩
abbrev Ev := List SV → Sto → Res
abbrev Evs := List SV → Sto → Ress
def tE (c : Cz) (z : Ez) (W : WX) (ev : Ev) : TE := fun τ H Q => ∃ w σ M, SR c w σ M τ H ∧ Sat c z (fun cl d H' => W cl d τ H') w M H (ev σ M) Q
def tEs (c : Cz) (z : Ez) (W : WX) (ev : Evs) : TA := fun τ H Q => ∃ w σ M, SR c w σ M τ H ∧ Sats c z (fun cl d H' => W cl d τ H') w M H (ev σ M) Q
def tT (c : Cz) (z : Ez) (W : WX) (ev : Ev) : TT := fun τ H Q => tE c z W ev τ H fun v H1 => ∃ b, v = .bl b ∧ Q b H1
section
variable {c : Cz} {z : Ez} {W : WX} {w : Wd} {σ : List SV} {M : Sto} {τ : St} {H : Hp} {Q : VK}
/-- one part is evaluated, the rest goes on from where it leaves -/
theorem tE_bind {ev : Ev} {f : D → Sto → Res} (s : SR c w σ M τ H) (h : Sat c z (fun cl d H' => W cl d τ H') w M H ((ev σ M).bind f) Q) {K : VK}
    (k : ∀ w1 M1 H1 d v, Keep w M H w1 M1 H1 → SR c w1 σ M1 τ H1 → R c w1 d v → Sat c z (fun cl d H' => W cl d τ H') w1 M1 H1 (f d M1) Q → K v H1) : tE c z W ev τ H K := by
  refine ⟨w, σ, M, s, ?_⟩
  cases e : ev σ M with
  | ok d M1 =>
    rw [e] at h
    exact fun w1 H1 v k1 m1 r1 => k w1 M1 H1 d v k1 (s.keep k1 m1) r1 (Sat.step h k1)
  | exc a d M1 => rw [e] at h; exact h
  | bad => rw [e] at h; exact h
/-- a result that may be borrowed -/
def SatB (c : Cz) (z : Ez) (E : XK) (w : Wd) (M : Sto) (H : Hp) (r : Res) (Q : VK) : Prop := match r with
  | .ok d M' => ∀ w' H' v, Keep w M H w' M' H' → MR c w' M' H' → RB c w' M' H' d v → Q v H'
  | .exc k d M' => ExcAt c z E w M H k d M'
  | .bad => False
def SatBs (c : Cz) (z : Ez) (E : XK) (w : Wd) (M : Sto) (H : Hp) (r : Ress) (Q : List V → Hp → Prop) : Prop := match r with
  | .ok ds M' => ∀ w' H' vs, Keep w M H w' M' H' → MR c w' M' H' → RBs c w' M' H' ds vs → Q vs H'
  | .exc k d M' => ExcAt c z E w M H k d M'
  | .bad => False
def tB (c : Cz) (z : Ez) (W : WX) (ev : Ev) : TE := fun τ H Q => ∃ w σ M, SR c w σ M τ H ∧ SatB c z (fun cl d H' => W cl d τ H') w M H (ev σ M) Q
def tBs (c : Cz) (z : Ez) (W : WX) (ev : Evs) : TA := fun τ H Q => ∃ w σ M, SR c w σ M τ H ∧ SatBs c z (fun cl d H' => W cl d τ H') w M H (ev σ M) Q
theorem tB_tE {ev : Ev} (h : tB c z W ev τ H Q) : tE c z W ev τ H Q := by
  obtain ⟨w, σ, M, s, h⟩ := h
  refine ⟨w, σ, M, s, ?_⟩
  cases e : ev σ M with
  | ok d M1 => rw [e] at h; exact fun w' H' v k m r => h w' H' v k m (.inl r)
  | exc a d M1 => rw [e] at h; exact h
  | bad => rw [e] at h; exact h
theorem tB_bind {ev : Ev} {f : D → Sto → Res} (s : SR c w σ M τ H) (h : Sat c z (fun cl d H' => W cl d τ H') w M H ((ev σ M).bind f) Q) {K : VK}
    (k : ∀ w1 M1 H1 d v, Keep w M H w1 M1 H1 → SR c w1 σ M1 τ H1 → RB c w1 M1 H1 d v → Sat c z (fun cl d H' => W cl d τ H') w1 M1 H1 (f d M1) Q → K v H1) : tB c z W ev τ H K := by
  refine ⟨w, σ, M, s, ?_⟩
  cases e : ev σ M with
  | ok d M1 =>
    rw [e] at h
    exact fun w1 H1 v k1 m1 r1 => k w1 M1 H1 d v k1 (s.keep k1 m1) r1 (Sat.step h k1)
  | exc a d M1 => rw [e] at h; exact h
  | bad => rw [e] at h; exact h
theorem PE.imp {X : Cx} {e : Expr} {t t' : TE} (h : PE X e t) (i : ∀ τ H Q, t' τ H Q → t τ H Q) : PE X e t' := ⟨fun pins s σ H Q I q => h.run pins s σ H Q I (i _ _ _ q)⟩
theorem PT.imp {X : Cx} {e : Expr} {t t' : TT} (h : PT X e t) (i : ∀ τ H Q, t' τ H Q → t τ H Q) : PT X e t' := ⟨fun pins s σ H Q I q => h.run pins s σ H Q I (i _ _ _ q)⟩
theorem PA.imp {X : Cx} {e : List Expr} {t t' : TA} (h : PA X e t) (i : ∀ τ H Q, t' τ H Q → t τ H Q) : PA X e t' := ⟨fun pos pins s σ H Q I q => h.run pos pins s σ H Q I (i _ _ _ q)⟩
theorem PS.imp {X : Cx} {e : Stmt} {t t' : TS} (h : PS X e t) (i : ∀ D τ H, t' D τ H → t D τ H) : PS X e t' := ⟨fun pins s σ H D I q => h.run pins s σ H D I (i _ _ _ q)⟩
theorem PSs.imp {X : Cx} {e : List Stmt} {t t' : TS} (h : PSs X e t) (i : ∀ D τ H, t' D τ H → t D τ H) : PSs X e t' := ⟨fun pins s σ H D I q => h.run pins s σ H D I (i _ _ _ q)⟩
end
end Z


set_option Elab.async false
set_option linter.all false
set_option autoImplicit false
set_option maxRecDepth 100000
set_option maxHeartbeats 4000000
namespace Z
open PySem L2

inductive Bin where
  | add | sub | mul | fdiv | mod | pow
  deriving DecidableEq
inductive Cm where
  | eq | ne | lt | le | gt | ge | is_ | isn | in_ | nin
  deriving DecidableEq
inductive Bi where
  | len | int_ | str_ | list_ | tuple_ | min_ | max_ | abs_ | sum_ | any_ | all_ | ord_ | dict_ | range_
  deriving DecidableEq
inductive Bm where
  | split | join | index | count | get | get2 | isdigit | replace
  deriving DecidableEq
inductive Ty where
  | bool_ | int_ | str_ | list_ | tuple_ | dict_ | non_
  | cls (k : Nat)
  | exc (k : Nat)
  deriving DecidableEq
mutual
inductive E where
  | lit (d : D)
  | slot (i : Nat)
  | bor (i : Nat)
  | glb (g : Nat)
  | bin (op : Bin) (a b : E)
  | neg (a : E)
  | not_ (a : E)
  | cmp (o : Cm) (a b : E)
  | cmp2 (o1 o2 : Cm) (a b c : E)
  | and_ (a b : E)
  | or_ (a b : E)
  | ite (c a b : E)
  | call (f : Nat) (as : Es)
  | callk (q : Nat) (as zs : Es)
  | mk (k : Nat) (as : Es)
  | mth (m : Nat) (o : E) (as : Es)
  | prp (m : Nat) (o : E)
  | eqm (m : Nat) (a b : E)
  | nem (m : Nat) (a b : E)
  | hcall (f : Nat) (as : Es)
  | att (f : Nat) (o : E)
  | idx (a b : E)
  | slc (a lo hi : E)
  | slL (a lo : E)
  | slH (a hi : E)
  | slA (a : E)
  | tup (as : Es)
  | lst (as : Es)
  | lstR (as : Es)
  | dctR (ks : List DK) (as : Es)
  | bi (b : Bi) (as : Es)
  | bm (b : Bm) (o : E) (as : Es)
  | isi (a : E) (ts : List Ty)
  | exf (i f : Nat)
  | exi (i : Nat) (ts : List Ty)
  | kdx (g : Nat) (a : E)
  | comp (is : List Nat) (it : It) (cond : E) (body : E)
inductive Es where
  | nil
  | cons (e : E) (es : Es)
  | conB (e : E) (es : Es)
  | star (e : E) (es : Es)
inductive It where
  | seq (e : E)
  | lent (i : Nat)
  | rng (as : Es)
  | enum (e : E)
  | zip (a b : E)
  | rev (e : E)
  | items (e : E)
end
/-- targets of a store -/
inductive T where
  | nm (i : Nat)
  | tp (is : List Nat)
mutual
inductive S where
  | asg (i : Nat) (e : E)
  | own (i : Nat) (e : E)
  | unp (is : List Nat) (e : E)
  | par (i j : Nat) (a b : E)
  | sat (o : E) (f : Nat) (e : E)
  | aat (o : E) (f : Nat) (op : Bin) (e : E)
  | sit (o i e : E)
  | osit (j : Nat) (i e : E)
  | aug (i : Nat) (op : Bin) (e : E)
  | app (o e : E)
  | oapp (j : Nat) (e : E)
  | ext (o e : E)
  | oext (j : Nat) (e : E)
  | ex (e : E)
  | ife (c : E) (s t : Ss)
  | for_ (t : T) (it : It) (b : Ss)
  | while_ (c : E) (b : Ss)
  | ret (e : E)
  | retN
  | raise_ (k : Nat) (e : E)
  | tryE (b : Ss) (k i : Nat) (h : Ss)
  | stuck
  | pass_
  | brk
  | cnt
  | frz (i : Nat)
inductive Ss where
  | nil
  | cons (s : S) (ss : Ss)
end

/-! ### operations -/
def LIM : Nat := 16777216
def B64 : Int := 18446744073709551616
def look (M : Sto) : D → D
  | .ref n => match M.m n with
    | some (.lst ds) => .lst ds
    | some (.dct ks vs) => .dct ks vs
    | _ => .ref n
  | d => d
mutual
def dep : D → Nat
  | .tup ds => deps ds + 1
  | .lst ds => deps ds + 1
  | _ => 0
def deps : List D → Nat
  | [] => 0
  | d :: ds => max (dep d) (deps ds)
end
mutual
/-- data whose == is that of the built-in types alone -/
def pure : D → Bool
  | .tup ds => pures ds
  | .lst ds => pures ds
  | .frl _ => false
  | .dct _ _ => false
  | .obj _ _ _ => false
  | .ref _ => false
  | _ => true
def pures : List D → Bool
  | [] => true
  | d :: ds => pure d && pures ds
end
def b2 (b : Bool) : Int := if b then 1 else 0
mutual
def eqD : D → D → Bool
  | .non, e => match e with | .non => true | _ => false
  | .bl a, e => match e with | .bl b => a == b | .int j => decide (b2 a = j) | _ => false
  | .int i, e => match e with | .bl b => decide (i = b2 b) | .int j => decide (i = j) | _ => false
  | .str x, e => match e with | .str y => decide (x = y) | _ => false
  | .tup xs, e => match e with | .tup ys => eqDs xs ys | _ => false
  | .lst xs, e => match e with | .lst ys => eqDs xs ys | _ => false
  | _, _ => false
def eqDs : List D → List D → Bool
  | [], [] => true
  | x :: xs, y :: ys => eqD x y && eqDs xs ys
  | [], _ :: _ => false
  | _ :: _, [] => false
end
/-- truth -/
def tru (M : Sto) (d : D) : Option Bool := match look M d with
  | .non => some false
  | .bl b => some b
  | .int i => some (i != 0)
  | .str x => if x.length ≤ LIM then some (!x.isEmpty) else none
  | .tup ds => some (!ds.isEmpty)
  | .lst ds => some (!ds.isEmpty)
  | .frl ds => some (!ds.isEmpty)
  | .dct ks _ => some (!ks.isEmpty)
  | _ => none
/-- a truth value as an int, in arithmetic -/
def opBin : Bin → D → D → Sto → Res
  | .add, .int i, .int j, M => .ok (.int (i + j)) M
  | .add, .str x, .str y, M => if x.length + y.length ≤ LIM then .ok (.str (x ++ y)) M else .bad
  | .add, .lst x, .lst y, M => if x.length + y.length ≤ LIM then .ok (.lst (x ++ y)) M else .bad
  | .add, .tup x, .tup y, M => if x.length + y.length ≤ LIM then .ok (.tup (x ++ y)) M else .bad
  | .sub, .int i, .int j, M => .ok (.int (i - j)) M
  | .mul, .int i, .int j, M => if (-B64 < i ∧ i < B64) ∨ (-B64 < j ∧ j < B64) then .ok (.int (i * j)) M else .bad
  | .mul, .lst x, .int k, M => if -9223372036854775808 ≤ k ∧ k < 9223372036854775808 ∧ x.length * k.toNat ≤ LIM then .ok (.lst (List.replicate k.toNat x).flatten) M else .bad
  | .fdiv, .int i, .int j, M => if 0 < j ∧ j < 1073741824 then .ok (.int (i / j)) M else .bad
  | .mod, .int i, .int j, M => if 0 < j then .ok (.int (i % j)) M else .bad
  | .pow, .int i, .int j, M => if 0 ≤ j ∧ j ≤ 1000000 ∧ i.natAbs < 18446744073709551616 then .ok (.int (i ^ j.toNat)) M else .bad
  | _, _, _, _ => .bad
def hasS (x y : List Nat) : Bool := match x with
  | [c] => decide (c ∈ y)
  | _ => false
def flat : D → Bool
  | .non | .bl _ | .int _ | .str _ => true
  | _ => false
def dkOf : D → Option DK
  | .int i => some (.i i)
  | .str x => some (.s x)
  | _ => none
def inD (x : D) (ys : List D) : Bool := ys.any fun y => eqD y x
def opIn (x y : D) (M : Sto) : Option Bool := match y with
  | .lst ys => if pure x && pures ys && decide (dep x ≤ 64) && decide (deps ys ≤ 63) then some (inD x ys) else none
  | .tup ys => if flat x && ys.all flat then some (inD x ys) else none
  | .str ys => match x with
    | .str [c] => some (decide (c ∈ ys))
    | _ => none
  | .dct ks _ => (dkOf x).map fun k => decide (k ∈ ks)
  | _ => none
def opCmp (o : Cm) (x y : D) (M : Sto) : Res := match o with
  | .eq => if pure x && pure y && decide (dep x ≤ 64) && decide (dep y ≤ 64) then .ok (.bl (eqD x y)) M else .bad
  | .ne => if pure x && pure y && decide (dep x ≤ 64) && decide (dep y ≤ 64) then .ok (.bl (!eqD x y)) M else .bad
  | .lt => match x, y with
    | .int i, .int j => .ok (.bl (decide (i < j))) M
    | _, _ => .bad
  | .le => match x, y with
    | .int i, .int j => .ok (.bl (decide (i ≤ j))) M
    | _, _ => .bad
  | .gt => match x, y with
    | .int i, .int j => .ok (.bl (decide (j < i))) M
    | _, _ => .bad
  | .ge => match x, y with
    | .int i, .int j => .ok (.bl (decide (j ≤ i))) M
    | _, _ => .bad
  | .is_ => match y with
    | .non => match x with
      | .non => .ok (.bl true) M
      | _ => .ok (.bl false) M
    | _ => .bad
  | .isn => match y with
    | .non => match x with
      | .non => .ok (.bl false) M
      | _ => .ok (.bl true) M
    | _ => .bad
  | .in_ => (opIn x y M).elim .bad fun b => .ok (.bl b) M
  | .nin => (opIn x y M).elim .bad fun b => .ok (.bl (!b)) M
def ixOf (n : Nat) (i : Int) : Option Nat := if 0 ≤ i then (if i < n then some i.toNat else none) else if -(n : Int) ≤ i then some (i + n).toNat else none
def opIdx (x y : D) (M : Sto) : Res := match x, y with
  | .lst ds, .int i => ((ixOf ds.length i).bind fun j => ds[j]?).elim .bad fun d => .ok d M
  | .frl ds, .int i => ((ixOf ds.length i).bind fun j => ds[j]?).elim .bad fun d => .ok d M
  | .tup ds, .int i => ((ixOf ds.length i).bind fun j => ds[j]?).elim .bad fun d => .ok d M
  | .str s, .int i => if s.length ≤ LIM then ((ixOf s.length i).bind fun j => s[j]?).elim .bad fun d => .ok (.str [d]) M else .bad
  | .dct ks vs, y => (dkOf y).elim .bad fun k => ((ks.zip vs).lookup k).elim .bad fun d => .ok d M
  | _, _ => .bad
def sIxZ (n d : Nat) : Option Int → Nat
  | none => d
  | some i => if i < 0 then (i + n).toNat else min i.toNat n
def cutZ {α : Type} (xs : List α) (lo hi : Option Int) : List α := (xs.drop (sIxZ xs.length 0 lo)).take (sIxZ xs.length xs.length hi - sIxZ xs.length 0 lo)
def opCut (x : D) (l h : Option Int) (M : Sto) : Res := match x with
  | .lst ds => .ok (.lst (cutZ ds l h)) M
  | .frl ds => .ok (.lst (cutZ ds l h)) M
  | .tup ds => .ok (.tup (cutZ ds l h)) M
  | .str s => if s.length ≤ LIM then .ok (.str (cutZ s l h)) M else .bad
  | _ => .bad
def asI : D → Option Int
  | .int i => some i
  | _ => none
def strI (i : Int) : List Nat := (toString i).toList.map Char.toNat
def asInts : List D → Option (List Int)
  | [] => some []
  | .int i :: r => (asInts r).map (i :: ·)
  | _ => none
def asBls : List D → Option (List Bool)
  | [] => some []
  | .bl b :: r => (asBls r).map (b :: ·)
  | _ => none
def asStrs : List D → Option (List (List Nat))
  | [] => some []
  | .str b :: r => (asStrs r).map (b :: ·)
  | _ => none
def opBi : Bi → List D → Sto → Res
  | .len, [x], M => match look M x with
    | .lst ds => .ok (.int ds.length) M
    | .frl ds => .ok (.int ds.length) M
    | .tup ds => .ok (.int ds.length) M
    | .str s => if s.length ≤ LIM then .ok (.int s.length) M else .bad
    | .dct ks _ => .ok (.int ks.length) M
    | _ => .bad
  | .int_, [.int i], M => .ok (.int i) M
  | .int_, [.bl b], M => .ok (.int (b2 b)) M
  | .int_, [.str x], M => if x.length ≤ 640 then (PySem.intText? (sS x)).elim .bad fun n => .ok (.int n) M else .bad
  | .str_, [.int i], M => if i.natAbs.log2 < 1920 then .ok (.str (strI i)) M else .bad
  | .list_, [x], M => match look M x with
    | .lst ds => .ok (.lst ds) M
    | .frl ds => .ok (.lst ds) M
    | .tup ds => .ok (.lst ds) M
    | _ => .bad
  | .tuple_, [x], M => match look M x with
    | .lst ds => .ok (.tup ds) M
    | .tup ds => .ok (.tup ds) M
    | _ => .bad
  | .min_, [.int i, .int j], M => .ok (.int (if j < i then j else i)) M
  | .max_, [.int i, .int j], M => .ok (.int (if j > i then j else i)) M
  | .abs_, [.int i], M => .ok (.int (if i < 0 then -i else i)) M
  | .sum_, [x], M => match look M x with
    | .lst ds => (asInts ds).elim .bad fun ns => .ok (.int ns.sum) M
    | _ => .bad
  | .any_, [x], M => match look M x with
    | .lst ds => (asBls ds).elim .bad fun bs => .ok (.bl (bs.any id)) M
    | _ => .bad
  | .all_, [x], M => match look M x with
    | .lst ds => (asBls ds).elim .bad fun bs => .ok (.bl (bs.all id)) M
    | _ => .bad
  | .ord_, [.str [c]], M => .ok (.int c) M
  | _, _, _ => .bad
/-- split at a sign -/
def splitAt1 (c : Nat) : List Nat → List (List Nat)
  | [] => [[]]
  | x :: xs => if x = c then [] :: splitAt1 c xs else match splitAt1 c xs with
    | [] => [[x]]
    | y :: ys => (x :: y) :: ys
def joinL (s : List Nat) : List (List Nat) → List Nat
  | [] => []
  | [x] => x
  | x :: y :: r => x ++ s ++ joinL s (y :: r)
def firstIx (x : D) : List D → Option Nat
  | [] => none
  | y :: ys => if eqD y x then some 0 else (firstIx x ys).map (· + 1)
def opIndex (x y : D) (M : Sto) : Res := match look M x with
  | .lst ds => if (flat y && ds.all flat) = true then (firstIx y ds).elim .bad fun j => .ok (.int j) M else .bad
  | .tup ds => match y with
    | .str _ => (asStrs ds).elim .bad fun _ => (firstIx y ds).elim .bad fun j => .ok (.int j) M
    | _ => .bad
  | _ => .bad
def opGet (x y d : D) (M : Sto) : Res := match look M x with
  | .dct ks vs => (dkOf y).elim .bad fun k => .ok (((ks.zip vs).lookup k).getD d) M
  | _ => .bad
def opBm : Bm → D → List D → Sto → Res
  | .split, .str x, [.str [c]], M => if c < 256 ∧ x.length + 2 ≤ LIM then .ok (.lst ((splitAt1 c x).map D.str)) M else .bad
  | .join, .str s, [y], M => match look M y with
    | .lst ds => (asStrs ds).elim .bad fun xs => if (xs.map List.length).sum + xs.length * s.length ≤ LIM then .ok (.str (joinL s xs)) M else .bad
    | _ => .bad
  | .index, x, [y], M => opIndex x y M
  | .get2, x, [y, d], M => opGet x y d M
  | _, _, _, _ => .bad
end Z


set_option Elab.async false
set_option linter.all false
set_option autoImplicit false
set_option maxRecDepth 100000
set_option maxHeartbeats 4000000
namespace Z
open PySem L2

/-! ### values as they stand in the heap now -/
def RV (c : Cz) (w : Wd) (H : Hp) : D → V → Prop
  | .lst ds, v => ∃ a xs, v = .ref a ∧ H a = some (.lst xs) ∧ Rs c w ds xs
  | .dct ks vs, v => ∃ a kvs, v = .ref a ∧ H a = some (.dK kvs) ∧ kvs.map (·.1) = ks.map kK ∧ (∀ k ∈ ks, okK k) ∧ Rs c w vs (kvs.map (·.2))
  | d, v => R c w d v
section
variable {c : Cz} {z : Ez} {E : XK} {w : Wd} {M : Sto} {H : Hp} {Q : VK}
theorem Rd.sub {F : Hp} {a : Addr} {o : HO} (h : ∀ a o, F a = some o → H a = some o) (r : Rd F a o) : Rd H a o := by
  rcases r with r | ⟨ob, r⟩
  · exact .inl (h _ _ r)
  · exact .inr ⟨ob, h _ _ r⟩
theorem SqL.sub {K : PySem.W.Frag} {F : Hp} {a : Addr} {xs : List V} (h : ∀ a o, F a = some o → H a = some o) (r : SqL K F a xs) : SqL K H a xs := r.elim (fun r => .inl (Rd.sub h r)) .inr
theorem SqT.sub {K : PySem.W.Frag} {F : Hp} {a : Addr} {xs : List V} (h : ∀ a o, F a = some o → H a = some o) (r : SqT K F a xs) : SqT K H a xs := r.elim (fun r => .inl (Rd.sub h r)) .inr
theorem RV.of {d : D} {v : V} (m : MR c w M H) (r : R c w d v) : RV c w H d v := by
  cases d with
  | lst ds => obtain ⟨a, xs, e, q, r⟩ := r; exact ⟨a, xs, e, m.sub _ _ q, r⟩
  | dct ks vs => obtain ⟨a, kvs, e, q, r⟩ := r; exact ⟨a, kvs, e, m.sub _ _ q, r⟩
  | _ => exact r
theorem RV.look {d : D} {v : V} (m : MR c w M H) (r : RB c w M H d v) : RV c w H (Z.look M d) v := by
  rcases r with r | ⟨p, o, mo, e, h2, h3, h4, h5, h6⟩
  · cases d with
    | ref n =>
      obtain ⟨e, hn⟩ := r
      cases hm : M.m n with
      | none =>
        have q : Z.look M (.ref n) = .ref n := by simp only [Z.look, hm]
        rw [q]; exact ⟨e, hn⟩
      | some mo =>
        obtain ⟨_, _, o, ho, hr⟩ := m.st n mo hm
        cases mo with
        | lst ds =>
          have q : Z.look M (.ref n) = .lst ds := by simp only [Z.look, hm]
          rw [q]
          obtain ⟨vs, eo, rs⟩ := hr; exact ⟨_, vs, e, by rw [ho, eo], rs⟩
        | dct ks vs =>
          have q : Z.look M (.ref n) = .dct ks vs := by simp only [Z.look, hm]
          rw [q]
          obtain ⟨kvs, eo, r1, r2, r3⟩ := hr; exact ⟨_, kvs, e, by rw [ho, eo], r1, r2, r3⟩
        | ins k ns vs =>
          have q : Z.look M (.ref n) = .ref n := by simp only [Z.look, hm]
          rw [q]; exact ⟨e, hn⟩
    | _ => exact RV.of m r
  · subst e
    cases mo with
    | lst ds => cases h6; obtain ⟨vs, eo, rs⟩ := h3; exact ⟨p, vs, rfl, by rw [h2, eo], rs⟩
    | dct ks vs => cases h6; obtain ⟨kvs, eo, r1, r2, r3⟩ := h3; exact ⟨p, kvs, rfl, by rw [h2, eo], r1, r2, r3⟩
    | ins k ns vs => cases h6
theorem RV.tup {ds : List D} {v : V} (m : MR c w M H) (r : R c w (.tup ds) v) : ∃ a xs, v = .ref a ∧ SqT c.K H a xs ∧ Rs c w ds xs := by
  obtain ⟨a, xs, e, q, r⟩ := r
  exact ⟨a, xs, e, SqT.sub m.sub q, r⟩
theorem RV.frl {ds : List D} {v : V} (m : MR c w M H) (r : R c w (.frl ds) v) : ∃ a xs, v = .ref a ∧ SqL c.K H a xs ∧ Rs c w ds xs := by
  obtain ⟨a, xs, e, q, r⟩ := r
  exact ⟨a, xs, e, SqL.sub m.sub q, r⟩
theorem RV.lst {ds : List D} {v : V} (r : RV c w H (.lst ds) v) : ∃ a xs, v = .ref a ∧ H a = some (.lst xs) ∧ Rs c w ds xs := r
/-- a new object, never to be changed -/
def Wd.add (w : Wd) (p : Addr) (o : HO) : Wd := { w with F := upd w.F p o }
theorem MR.fresh {p : Addr} (m : MR c w M H) (hp : H p = none) : w.F p = none ∧ ¬ InM w M p := by
  refine ⟨?_, fun ⟨n, mo, h1, h2⟩ => ?_⟩
  · cases e : w.F p with
    | none => rfl
    | some o => rw [m.sub p o e] at hp; cases hp
  · obtain ⟨_, _, o, ho, _⟩ := m.st n mo h1
    rw [h2, hp] at ho; cases ho
theorem Wle.add {p : Addr} {o : HO} (hp : w.F p = none) : Wle w (w.add p o) :=
  ⟨fun a u e => by show upd w.F p o a = some u; rw [upd_ne (ne_of_none e hp)]; exact e, Nat.le_refl _, fun _ _ => rfl⟩
theorem upd_none {H : Hp} {p a : Addr} {o : HO} (h : upd H p o a = none) : H a = none := by
  by_cases e : a = p
  · subst e; rw [upd_same] at h; cases h
  · rw [upd_ne e] at h; exact h
theorem keep_upd {p : Addr} {o : HO} (m : MR c w M H) (hp : H p = none) : Keep w M H w M (upd H p o) :=
  ⟨.refl w, fun a u e _ => by rw [upd_ne (ne_of_none e hp)]; exact e, fun a u e k => (by rw [e] at k; cases k), fun a h => .inr h, fun a h => upd_none h⟩
theorem MR.upd {p : Addr} {o : HO} (m : MR c w M H) (hp : H p = none) : MR c w M (L2.upd H p o) := by
  refine ⟨m.nx, fun a u e => ?_, fun n mo h => ?_, m.inj⟩
  · rw [upd_ne (ne_of_none (m.sub a u e) hp)]; exact m.sub a u e
  · obtain ⟨h1, h2, u, h3, h4⟩ := m.st n mo h
    exact ⟨h1, h2, u, by rw [upd_ne (ne_of_none h3 hp)]; exact h3, h4⟩
theorem keep_add {p : Addr} {o : HO} (m : MR c w M H) (hp : H p = none) : Keep w M H (w.add p o) M (upd H p o) :=
  ⟨.add (m.fresh hp).1, fun a u e _ => by rw [upd_ne (ne_of_none e hp)]; exact e, fun a u e k => (by
      have e' : upd w.F p o a = some u := e
      by_cases h : a = p
      · subst h; exact .inl hp
      · rw [upd_ne h, k] at e'; cases e'),
    fun a h => .inr h, fun a h => upd_none h⟩
theorem MR.add {p : Addr} {o : HO} (m : MR c w M H) (hp : H p = none) : MR c (w.add p o) M (L2.upd H p o) := by
  refine ⟨m.nx, fun a u e => ?_, fun n mo h => ?_, m.inj⟩
  · have e' : L2.upd w.F p o a = some u := e
    by_cases h : a = p
    · subst h; rw [upd_same] at e' ⊢; exact e'
    · rw [upd_ne h] at e' ⊢; exact m.sub a u e'
  · obtain ⟨h1, h2, u, h3, h4⟩ := m.st n mo h
    have ne : w.rh n ≠ p := ne_of_none h3 hp
    exact ⟨h1, by show L2.upd w.F p o (w.rh n) = none; rw [upd_ne ne]; exact h2, u, by show L2.upd H p o (w.rh n) = some u; rw [upd_ne ne]; exact h3, h4.le (.add (m.fresh hp).1)⟩
theorem Sat.newL {ds : List D} {xs : List V} {p : Addr} (h : Sat c z E w M H (.ok (.lst ds) M) Q) (m : MR c w M H) (r : Rs c w ds xs) (hp : H p = none) : Q (.ref p) (upd H p (.lst xs)) :=
  h (w.add p (.lst xs)) (upd H p (.lst xs)) (.ref p) (keep_add m hp) (m.add hp) ⟨p, xs, rfl, upd_same, Rs.le (.add (m.fresh hp).1) _ _ r⟩
theorem Sat.newT {ds : List D} {xs : List V} {p : Addr} (h : Sat c z E w M H (.ok (.tup ds) M) Q) (m : MR c w M H) (r : Rs c w ds xs) (hp : H p = none) : Q (.ref p) (upd H p (.tup xs)) :=
  h (w.add p (.tup xs)) (upd H p (.tup xs)) (.ref p) (keep_add m hp) (m.add hp) ⟨p, xs, rfl, .inl (.inl upd_same), Rs.le (.add (m.fresh hp).1) _ _ r⟩
end
theorem LIM_eq : (sizeLine : Nat) = LIM := by rw [sizeLine_eq]; rfl

/-! ### arithmetic by values -/
def toOp : Bin → Operator
  | .add => .Add | .sub => .Sub | .mul => .Mult | .fdiv => .FloorDiv | .mod => .Mod | .pow => .Pow
def rBin (c : Cz) (z : Ez) (E : XK) (op : Bin) : R2 := fun x y H Q => ∃ w M d e, MR c w M H ∧ RV c w H d x ∧ RV c w H e y ∧ Sat c z E w M H (opBin op d e M) Q
section
variable {X : Cx} {c : Cz} {z : Ez} {E : XK}
theorem sS_len (x : List Nat) : (sS x).length = x.length := by
  show (x.toArray).size = x.length
  simp
theorem sS_app (x y : List Nat) : sS x ++ sS y = sS (x ++ y) := by
  show (⟨x.toArray ++ y.toArray⟩ : Str) = ⟨(x ++ y).toArray⟩
  simp
theorem Rs.rep {w : Wd} {ds : List D} {xs : List V} (r : Rs c w ds xs) : ∀ n : Nat, Rs c w (List.replicate n ds).flatten (List.replicate n xs).flatten
  | 0 => rfl
  | n + 1 => by
    rw [List.replicate_succ, List.replicate_succ, List.flatten_cons, List.flatten_cons]
    exact r.app (Rs.rep r n)
theorem okS_app {x y : List Nat} (h : okS x) (k : okS y) : okS (x ++ y) := fun n hn => (List.mem_append.mp hn).elim (h n) (k n)
theorem op_bin (op : Bin) (hK : c.K = X.K) : OpR X (binaryOp (toOp op)) (rBin c z E op) := by
  intro pins s σ H x y v u Q I rx ry h
  obtain ⟨w, M, d, e, m, rd, re, sat⟩ := h
  cases op with
  | add =>
    cases d with
    | int i => cases e with
      | int j => cases rd; cases re; exact op_add pins s σ H _ _ v u Q I rx ry ⟨i, j, rfl, rfl, sat.here m rfl⟩
      | _ => exact sat.elim
    | str a => cases e with
      | str b =>
        obtain ⟨rfl, ha⟩ := rd
        obtain ⟨rfl, hb⟩ := re
        have sat : Sat c z E w M H (if a.length + b.length ≤ LIM then .ok (.str (a ++ b)) M else .bad) Q := sat
        by_cases hl : a.length + b.length ≤ LIM
        · rw [if_pos hl] at sat
          exact op_add_str pins s σ H _ _ v u Q I rx ry ⟨_, _, rfl, rfl, by rw [sS_len, sS_len, LIM_eq]; exact hl, by rw [sS_app]; exact sat.here m ⟨rfl, okS_app ha hb⟩⟩
        · rw [if_neg hl] at sat; exact sat.elim
      | _ => exact sat.elim
    | lst a => cases e with
      | lst b =>
        obtain ⟨p, xs, rfl, hp, r1⟩ := rd
        obtain ⟨q, ys, rfl, hq, r2⟩ := re
        have sat : Sat c z E w M H (if a.length + b.length ≤ LIM then .ok (.lst (a ++ b)) M else .bad) Q := sat
        by_cases hl : a.length + b.length ≤ LIM
        · rw [if_pos hl] at sat
          exact op_cat pins s σ H _ _ v u Q I rx ry ⟨p, q, xs, ys, rfl, rfl, hp, hq, by rw [r1.length, r2.length, LIM_eq]; exact hl, fun n hn => sat.newL m (r1.app r2) hn⟩
        · rw [if_neg hl] at sat; exact sat.elim
      | _ => exact sat.elim
    | tup a => cases e with
      | tup b =>
        obtain ⟨p, xs, rfl, hp, r1⟩ := RV.tup m rd
        obtain ⟨q, ys, rfl, hq, r2⟩ := RV.tup m re
        have sat : Sat c z E w M H (if a.length + b.length ≤ LIM then .ok (.tup (a ++ b)) M else .bad) Q := sat
        by_cases hl : a.length + b.length ≤ LIM
        · rw [if_pos hl] at sat
          refine op_catA pins s σ H _ _ v u Q I rx ry ⟨p, q, xs, ys, rfl, rfl, hK ▸ hp, hK ▸ hq, by rw [r1.length, r2.length, LIM_eq]; exact hl, fun ex => ?_, fun _ ey => ?_, fun _ _ n hn => sat.newT m (r1.app r2) hn⟩
          · subst ex
            have : a = [] := by have := r1.length; simpa using this.symm
            subst this
            exact sat.here m re
          · subst ey
            have : b = [] := by have := r2.length; simpa using this.symm
            subst this
            rw [List.append_nil] at sat
            exact sat.here m rd
        · rw [if_neg hl] at sat; exact sat.elim
      | _ => exact sat.elim
    | _ => exact sat.elim
  | sub =>
    cases d with
    | int i => cases e with
      | int j => cases rd; cases re; exact op_sub pins s σ H _ _ v u Q I rx ry ⟨i, j, rfl, rfl, sat.here m rfl⟩
      | _ => exact sat.elim
    | _ => exact sat.elim
  | mul =>
    cases d with
    | int i => cases e with
      | int j =>
        cases rd; cases re
        have sat : Sat c z E w M H (if (-B64 < i ∧ i < B64) ∨ (-B64 < j ∧ j < B64) then .ok (.int (i * j)) M else .bad) Q := sat
        by_cases hl : (-B64 < i ∧ i < B64) ∨ (-B64 < j ∧ j < B64)
        · rw [if_pos hl] at sat
          exact op_mul pins s σ H _ _ v u Q I rx ry ⟨i, j, rfl, rfl, hl, sat.here m rfl⟩
        · rw [if_neg hl] at sat; exact sat.elim
      | _ => exact sat.elim
    | lst a => cases e with
      | int k =>
        cases re
        obtain ⟨p, xs, rfl, hp, r1⟩ := rd
        have sat : Sat c z E w M H (if -9223372036854775808 ≤ k ∧ k < 9223372036854775808 ∧ a.length * k.toNat ≤ LIM then .ok (.lst (List.replicate k.toNat a).flatten) M else .bad) Q := sat
        by_cases hl : -9223372036854775808 ≤ k ∧ k < 9223372036854775808 ∧ a.length * k.toNat ≤ LIM
        · rw [if_pos hl] at sat
          exact op_rep pins s σ H _ _ v u Q I rx ry ⟨p, k, xs, rfl, rfl, hp, hl.1, hl.2.1, by rw [r1.length, LIM_eq]; exact hl.2.2, fun n hn => sat.newL m (r1.rep k.toNat) hn⟩
        · rw [if_neg hl] at sat; exact sat.elim
      | _ => exact sat.elim
    | _ => exact sat.elim
  | fdiv =>
    cases d with
    | int i => cases e with
      | int j =>
        cases rd; cases re
        have sat : Sat c z E w M H (if 0 < j ∧ j < 1073741824 then .ok (.int (i / j)) M else .bad) Q := sat
        by_cases hl : 0 < j ∧ j < 1073741824
        · rw [if_pos hl] at sat
          exact op_fdiv pins s σ H _ _ v u Q I rx ry ⟨i, j, rfl, rfl, hl, sat.here m rfl⟩
        · rw [if_neg hl] at sat; exact sat.elim
      | _ => exact sat.elim
    | _ => exact sat.elim
  | mod =>
    cases d with
    | int i => cases e with
      | int j =>
        cases rd; cases re
        have sat : Sat c z E w M H (if 0 < j then .ok (.int (i % j)) M else .bad) Q := sat
        by_cases hl : 0 < j
        · rw [if_pos hl] at sat
          exact op_mod pins s σ H _ _ v u Q I rx ry ⟨i, j, rfl, rfl, hl, sat.here m rfl⟩
        · rw [if_neg hl] at sat; exact sat.elim
      | _ => exact sat.elim
    | _ => exact sat.elim
  | pow =>
    cases d with
    | int i => cases e with
      | int j =>
        cases rd; cases re
        have sat : Sat c z E w M H (if 0 ≤ j ∧ j ≤ 1000000 ∧ i.natAbs < 18446744073709551616 then .ok (.int (i ^ j.toNat)) M else .bad) Q := sat
        by_cases hl : 0 ≤ j ∧ j ≤ 1000000 ∧ i.natAbs < 18446744073709551616
        · rw [if_pos hl] at sat
          exact op_pow pins s σ H _ _ v u Q I rx ry ⟨i, j, rfl, rfl, hl, sat.here m rfl⟩
        · rw [if_neg hl] at sat; exact sat.elim
      | _ => exact sat.elim
    | _ => exact sat.elim
end
end Z


set_option Elab.async false
set_option linter.all false
set_option autoImplicit false
set_option maxRecDepth 100000
set_option maxHeartbeats 4000000
namespace Z
open PySem L2

/-! ### equality of data -/
mutual
def pyd : D → PyData
  | .non => .none
  | .bl b => .bool b
  | .int i => .int i
  | .str x => .str (sS x)
  | .tup ds => .tuple (pyds ds)
  | .lst ds => .list (pyds ds)
  | .frl _ => .none
  | .dct _ _ => .none
  | .obj _ _ _ => .none
  | .ref _ => .none
def pyds : List D → List PyData
  | [] => []
  | d :: ds => pyd d :: pyds ds
end
theorem pyds_map : ∀ ds : List D, pyds ds = ds.map pyd
  | [] => rfl
  | d :: ds => by rw [pyds, pyds_map ds]; rfl
mutual
theorem dep_pyd : ∀ d : D, pure d = true → (pyd d).depth = dep d
  | .non, _ => rfl
  | .bl _, _ => rfl
  | .int _, _ => rfl
  | .str _, _ => rfl
  | .tup ds, h => by
    simp only [pyd, PyData.depth, dep]; rw [deps_pyds ds h]
  | .lst ds, h => by
    simp only [pyd, PyData.depth, dep]; rw [deps_pyds ds h]
  | .frl _, h => by simp [pure] at h
  | .dct _ _, h => by simp [pure] at h
  | .obj _ _ _, h => by simp [pure] at h
  | .ref _, h => by simp [pure] at h
theorem deps_pyds : ∀ ds : List D, pures ds = true → PyData.depthAll (pyds ds) = deps ds
  | [], _ => rfl
  | d :: ds, h => by
    simp only [pures, Bool.and_eq_true] at h
    simp only [pyds, PyData.depthAll, deps]; rw [dep_pyd d h.1, deps_pyds ds h.2]
end
theorem sS_inj {x y : List Nat} (h : sS x = sS y) : x = y := by
  have : x.toArray = y.toArray := congrArg Str.cps h
  simpa using this
theorem sS_beq (x y : List Nat) : (sS x == sS y) = decide (x = y) := by
  by_cases h : x = y
  · subst h; simp
  · have : sS x ≠ sS y := fun e => h (sS_inj e)
    simp [h, this]
mutual
theorem eqv_pyd : ∀ d e : D, pure d = true → pure e = true → PyData.eqv (pyd d) (pyd e) = eqD d e
  | .non, e, _, h => by cases e <;> first | rfl | (simp [pure] at h)
  | .bl a, e, _, h => by
    cases e <;> first | rfl | (simp [pure] at h; done) | skip
    all_goals (rename_i j; show ((if a then (1 : Int) else 0) == j) = decide (b2 a = j); rw [Bool.beq_eq_decide_eq]; rfl)
  | .int i, e, _, h => by
    cases e <;> first | rfl | (simp [pure] at h; done) | skip
    all_goals first
      | (rename_i b; show (i == (if b then (1 : Int) else 0)) = decide (i = b2 b); rw [Bool.beq_eq_decide_eq]; rfl)
      | (rename_i j; show (i == j) = decide (i = j); rw [Bool.beq_eq_decide_eq])
  | .str x, e, _, h => by
    cases e <;> first | rfl | (simp [pure] at h; done) | skip
    rename_i y
    exact sS_beq x y
  | .tup xs, e, hd, h => by
    cases e <;> first | rfl | (simp [pure] at h; done) | skip
    rename_i ys
    exact eqv_pyds xs ys hd h
  | .lst xs, e, hd, h => by
    cases e <;> first | rfl | (simp [pure] at h; done) | skip
    rename_i ys
    exact eqv_pyds xs ys hd h
  | .frl _, _, h, _ => by simp [pure] at h
  | .dct _ _, _, h, _ => by simp [pure] at h
  | .obj _ _ _, _, h, _ => by simp [pure] at h
  | .ref _, _, h, _ => by simp [pure] at h
theorem eqv_pyds : ∀ xs ys : List D, pures xs = true → pures ys = true → PyData.eqvAll (pyds xs) (pyds ys) = eqDs xs ys
  | [], [], _, _ => rfl
  | x :: xs, y :: ys, h, k => by
    simp only [pures, Bool.and_eq_true] at h k
    simp only [pyds, PyData.eqvAll, eqDs]
    rw [eqv_pyd x y h.1 k.1, eqv_pyds xs ys h.2 k.2]
  | [], _ :: _, _, _ => rfl
  | _ :: _, [], _, _ => rfl
end
section
variable {c : Cz} {w : Wd} {M : Sto} {H : Hp}
theorem okS_all {x : List Nat} (h : okS x) : PyData.strOk (sS x) = true := by
  show (x.toArray).all (· < 0x110000) = true
  rw [Array.all_eq_true]
  intro i hi
  simp only [List.getElem_toArray, decide_eq_true_eq]
  exact h _ (List.getElem_mem _)
mutual
theorem R.lay : ∀ (d : D) (v : V), R c w d v → pure d = true → (pyd d).canLay0 = true
  | .non, _, _, _ => rfl
  | .bl _, _, _, _ => rfl
  | .int _, _, _, _ => rfl
  | .str x, _, ⟨_, h⟩, _ => okS_all h
  | .tup ds, _, ⟨_, xs, _, _, r⟩, h => Rs.lay ds xs r h
  | .lst ds, _, ⟨_, xs, _, _, r⟩, h => Rs.lay ds xs r h
  | .frl _, _, _, h => by simp [pure] at h
  | .dct _ _, _, _, h => by simp [pure] at h
  | .obj _ _ _, _, _, h => by simp [pure] at h
  | .ref _, _, _, h => by simp [pure] at h
theorem Rs.lay : ∀ (ds : List D) (vs : List V), Rs c w ds vs → pures ds = true → PyData.canLayAll0 (pyds ds) = true
  | [], _, _, _ => rfl
  | d :: ds, _, ⟨x, xs, _, r, q⟩, h => by
    simp only [pures, Bool.and_eq_true] at h
    simp only [pyds, PyData.canLayAll0, Bool.and_eq_true]
    exact ⟨R.lay d x r h.1, Rs.lay ds xs q h.2⟩
end
mutual
theorem R.dp (m : MR c w M H) : ∀ (d : D) (v : V), R c w d v → pure d = true → Dp c.K H v (pyd d)
  | .non, _, r, _ => by cases r; exact .non
  | .bl _, _, r, _ => by cases r; exact .bl _
  | .int _, _, r, _ => by cases r; exact .int _
  | .str x, _, ⟨e, _⟩, _ => by cases e; exact .str _
  | .tup ds, _, ⟨a, xs, e, q, r⟩, h => by cases e; exact .tup (SqT.sub m.sub q) (Rs.dp m ds xs r h)
  | .lst ds, _, ⟨a, xs, e, q, r⟩, h => by cases e; exact .lst (.inl (.inl (m.sub _ _ q))) (Rs.dp m ds xs r h)
  | .frl _, _, _, h => by simp [pure] at h
  | .dct _ _, _, _, h => by simp [pure] at h
  | .obj _ _ _, _, _, h => by simp [pure] at h
  | .ref _, _, _, h => by simp [pure] at h
theorem Rs.dp (m : MR c w M H) : ∀ (ds : List D) (vs : List V), Rs c w ds vs → pures ds = true → DpAll c.K H vs (pyds ds)
  | [], _, r, _ => by cases r; exact .nil
  | d :: ds, _, ⟨x, xs, e, r, q⟩, h => by
    subst e
    simp only [pures, Bool.and_eq_true] at h
    exact .cons (R.dp m d x r h.1) (Rs.dp m ds xs q h.2)
end
theorem RV.dp (m : MR c w M H) {d : D} {v : V} (r : RV c w H d v) (h : pure d = true) : Dp c.K H v (pyd d) := by
  cases d with
  | lst ds => obtain ⟨a, xs, e, q, r⟩ := r; subst e; exact .lst (.inl (.inl q)) (Rs.dp m ds xs r h)
  | dct ks vs => simp [pure] at h
  | _ => exact R.dp m _ _ r h
theorem RV.lay {d : D} {v : V} (r : RV c w H d v) (h : pure d = true) : (pyd d).canLay0 = true := by
  cases d with
  | lst ds => obtain ⟨a, xs, e, q, r⟩ := r; exact Rs.lay ds xs r h
  | dct ks vs => simp [pure] at h
  | _ => exact R.lay (c := c) (w := w) _ v r h
theorem RV.shaped {d : D} {v : V} (r : RV c w H d v) (h : pure d = true) (hd : dep d ≤ 64) : SeqAt.shaped (pyd d) = true := by
  unfold SeqAt.shaped
  rw [RV.lay r h, dep_pyd d h, decide_eq_true hd]; rfl
end
/-! ### comparisons by values -/
def toCm : Cm → CmpOp
  | .eq => .Eq | .ne => .NotEq | .lt => .Lt | .le => .LtE | .gt => .Gt | .ge => .GtE | .is_ => .Is | .isn => .IsNot | .in_ => .In | .nin => .NotIn
def rCm (c : Cz) (z : Ez) (E : XK) (o : Cm) : R2 := fun x y H Q => ∃ w M d e, MR c w M H ∧ RV c w H d x ∧ RV c w H e y ∧ Sat c z E w M H (opCmp o d e M) Q
section
variable {c : Cz} {z : Ez} {E : XK} {w : Wd} {M : Sto} {H : Hp} {Q : VK}
theorem if_sat {r : Res} {b : Bool} (h : Sat c z E w M H (if b = true then r else .bad) Q) : b = true ∧ Sat c z E w M H r Q := by
  cases b with
  | true => exact ⟨rfl, h⟩
  | false => exact h.elim
theorem flat_v {d : D} {v : V} (r : R c w d v) (h : flat d = true) : flatV v = true := by
  cases d <;> first | (cases r; rfl) | (obtain ⟨e, _⟩ := r; subst e; rfl) | (simp [flat] at h)
theorem flat_all : ∀ {ds : List D} {vs : List V}, Rs c w ds vs → ds.all flat = true → vs.all flatV = true
  | [], _, r, _ => by cases r; rfl
  | d :: ds, _, ⟨x, xs, e, r, q⟩, h => by
    subst e
    simp only [List.all_cons, Bool.and_eq_true] at h ⊢
    exact ⟨flat_v r h.1, flat_all q h.2⟩
theorem flat_eq {d e : D} {v u : V} (r : R c w d v) (q : R c w e u) (h : flat d = true) (k : flat e = true) : eqV v u = eqD d e := by
  cases d <;> first | (simp [flat] at h; done) | skip
  · cases r
    cases e <;> first | (simp [flat] at k; done) | skip
    · cases q; rfl
    · cases q; rfl
    · cases q; rfl
    · obtain ⟨q, _⟩ := q; subst q; rfl
  · cases r
    cases e <;> first | (simp [flat] at k; done) | skip
    · cases q; rfl
    · cases q; rfl
    · cases q
      show ((if _ then (1 : Int) else 0) == _) = decide _
      rw [Bool.beq_eq_decide_eq]; rfl
    · obtain ⟨q, _⟩ := q; subst q; rfl
  · cases r
    cases e <;> first | (simp [flat] at k; done) | skip
    · cases q; rfl
    · cases q
      show (_ == (if _ then (1 : Int) else 0)) = decide _
      rw [Bool.beq_eq_decide_eq]; rfl
    · cases q
      show (_ == _) = decide _
      rw [Bool.beq_eq_decide_eq]
    · obtain ⟨q, _⟩ := q; subst q; rfl
  · obtain ⟨r, _⟩ := r
    subst r
    cases e <;> first | (simp [flat] at k; done) | skip
    · cases q; rfl
    · cases q; rfl
    · cases q; rfl
    · obtain ⟨q, _⟩ := q; subst q; exact sS_beq _ _
theorem flat_in {x : D} {v : V} (r : R c w x v) (h : flat x = true) : ∀ {ds : List D} {vs : List V}, Rs c w ds vs → ds.all flat = true → inV v vs = inD x ds
  | [], _, q, _ => by cases q; rfl
  | d :: ds, _, ⟨y, xs, e, q, z⟩, k => by
    subst e
    simp only [List.all_cons, Bool.and_eq_true] at k
    show (eqV y v || inV v xs) = (eqD d x || inD x ds)
    rw [flat_eq q r k.1 h, flat_in r h z k.2]
theorem kK_inj {a b : DK} (h : kK a = kK b) : a = b := by
  cases a <;> cases b <;> simp only [kK] at h
  · cases h; rfl
  · cases h
  · cases h
  · rw [sS_inj (Sum.inr.inj h)]
theorem dkOf_v {d : D} {k : DK} {v : V} (h : dkOf d = some k) (r : RV c w H d v) : v = kV (kK k) := by
  cases d <;> simp only [dkOf, reduceCtorEq, Option.some.injEq] at h
  · subst h; exact r
  · subst h; exact r.1
theorem valV_lookup : ∀ {kvs : List (Key × V)} {ks : List DK} {vs : List D} (k : DK), kvs.map (·.1) = ks.map kK → Rs c w vs (kvs.map (·.2)) →
    (match (ks.zip vs).lookup k with | some d => ∃ v, valV kvs (kK k) = some v ∧ R c w d v | none => valV kvs (kK k) = none)
  | [], [], vs, k, _, r => by
    cases vs with
    | nil => rfl
    | cons d ds => obtain ⟨x, xs, e, _⟩ := r; simp at e
  | [], _ :: _, _, _, h, _ => by simp at h
  | _ :: _, [], _, _, h, _ => by simp at h
  | p :: kvs, k0 :: ks, [], k, h, r => by have r : (p :: kvs).map (·.2) = [] := r; simp at r
  | p :: kvs, k0 :: ks, d :: vs, k, h, ⟨x, xs, e, r, q⟩ => by
    simp only [List.map_cons, List.cons.injEq] at h e
    rw [List.zip_cons_cons, List.lookup_cons]
    by_cases hk : k = k0
    · subst hk
      rw [beq_self_eq_true]
      exact ⟨x, by rw [valV_pos h.1]; exact congrArg some e.1, r⟩
    · have hb : (k == k0) = false := by simpa using hk
      rw [hb]
      have hn : ¬ p.1 = kK k := fun z => hk (kK_inj (z.symm.trans h.1))
      rw [valV_neg hn]
      exact valV_lookup k h.2 (e.2 ▸ q)
theorem valV_some {kvs : List (Key × V)} {ks : List DK} (k : DK) (h : kvs.map (·.1) = ks.map kK) : (valV kvs (kK k)).isSome = decide (k ∈ ks) := by
  induction kvs generalizing ks with
  | nil =>
    cases ks with
    | nil => rfl
    | cons a b => simp at h
  | cons p kvs ih =>
    cases ks with
    | nil => simp at h
    | cons k0 ks =>
      simp only [List.map_cons, List.cons.injEq] at h
      by_cases hk : k = k0
      · subst hk
        rw [valV_pos h.1]; simp
      · have hn : ¬ p.1 = kK k := fun z => hk (kK_inj (z.symm.trans h.1))
        rw [valV_neg hn, ih h.2]
        simp [hk]
end
section
variable {X : Cx} {c : Cz} {z : Ez} {E : XK}
theorem sat_bl {w : Wd} {M : Sto} {H : Hp} {Q : VK} {b : Bool} (m : MR c w M H) (h : Sat c z E w M H (.ok (.bl b) M) Q) : Q (.bl b) H := h.here m rfl
theorem eqDs_any (x : D) (hx : pure x = true) : ∀ ys : List D, pures ys = true → ((pyds ys).any fun z => PyData.eqv z (pyd x)) = inD x ys
  | [], _ => rfl
  | y :: ys, h => by
    simp only [pures, Bool.and_eq_true] at h
    show (PyData.eqv (pyd y) (pyd x) || _) = (eqD y x || inD x ys)
    rw [eqv_pyd y x h.1 hx, ← eqDs_any x hx ys h.2]
theorem op_in (neg : Bool) (hK : c.K = X.K) (hu : X.A.units + 65 < cLine) {pins : List (Addr × Obj)} {s : Shared} {σ : St} {H : Hp} {x y : V} {v u : Value} {Q : VK} (I : Inv X pins σ H s) (rx : RelV x v) (ry : RelV y u)
    {w : Wd} {M : Sto} {d e : D} (m : MR c w M H) (rd : RV c w H d x) (re : RV c w H e y) {b : Bool} (h : opIn d e M = some b) (q : Q (.bl (if neg then !b else b)) H) :
    wpAny (model X.prog X.w) X.A (compareOp (if neg then .NotIn else .In) v u) (EP X pins σ Q) X.xe s := by
  cases e with
  | lst ys =>
    have h : (if pure d && pures ys && decide (dep d ≤ 64) && decide (deps ys ≤ 63) then some (inD d ys) else none) = some b := h
    split at h
    · rename_i hc
      simp only [Bool.and_eq_true, decide_eq_true_eq] at hc
      obtain ⟨⟨⟨h1, h2⟩, h3⟩, h4⟩ := hc
      cases h
      have dd := RV.dp m rd h1
      have de := RV.dp (d := .lst ys) m re h2
      have sd := RV.shaped rd h1 h3
      have se := RV.shaped (d := .lst ys) re h2 (by show deps ys + 1 ≤ 64; omega)
      rw [hK] at dd de
      have e1 := eqDs_any d h1 ys h2
      cases neg with
      | false => exact op_inD hu pins s σ H x y v u Q I rx ry ⟨_, _, dd, de, sd, se, by rw [e1]; exact q⟩
      | true => exact op_notInD hu pins s σ H x y v u Q I rx ry ⟨_, _, dd, de, sd, se, by rw [e1]; exact q⟩
    · cases h
  | tup ys =>
    have h : (if flat d && ys.all flat then some (inD d ys) else none) = some b := h
    split at h
    · rename_i hc
      simp only [Bool.and_eq_true] at hc
      cases h
      obtain ⟨a, xs, rfl, hq, r⟩ := RV.tup m re
      have rd' : R c w d x := by cases d <;> first | exact rd | (simp [flat] at hc)
      have e1 := flat_in rd' hc.1 r hc.2
      have f1 := flat_v rd' hc.1
      have f2 := flat_all r hc.2
      rw [hK] at hq
      cases neg with
      | false => exact op_in_seq pins s σ H x _ v u Q I rx ry ⟨a, xs, rfl, .inr hq, f1, f2, by simp only [Bool.false_eq_true, if_false]; rw [e1]; exact q⟩
      | true => exact op_notIn_seq pins s σ H x _ v u Q I rx ry ⟨a, xs, rfl, .inr hq, f1, f2, by simp only [if_true]; rw [e1]; exact q⟩
    · cases h
  | str ys =>
    obtain ⟨rfl, _⟩ := re
    cases d with
    | str xs =>
      obtain ⟨rfl, _⟩ := rd
      cases xs with
      | nil => cases h
      | cons k r =>
        cases r with
        | cons _ _ => cases h
        | nil =>
          cases h
          have q' : Q (.bl (if neg then !decide (k ∈ (sS ys).cps.toList) else decide (k ∈ (sS ys).cps.toList))) H := by
            have : (sS ys).cps.toList = ys := by show (ys.toArray).toList = ys; simp
            rw [this]; exact q
          cases neg with
          | false => exact op_in_sign pins s σ H _ _ v u Q I rx ry ⟨k, _, rfl, rfl, q'⟩
          | true => exact op_notIn_sign pins s σ H _ _ v u Q I rx ry ⟨k, _, rfl, rfl, q'⟩
    | _ => cases h
  | dct ks vs =>
    have h : (dkOf d).map (fun k => decide (k ∈ ks)) = some b := h
    cases hd : dkOf d with
    | none => rw [hd] at h; cases h
    | some k =>
      rw [hd] at h
      cases h
      obtain ⟨a, kvs, rfl, ha, h1, h2, h3⟩ := re
      have ex := dkOf_v hd rd
      subst ex
      obtain rfl : u = Value.ref a := ry
      have g := DGet.k (k := kK k) ha
      have q' : Q (.bl (if neg then !(valV kvs (kK k)).isSome else (valV kvs (kK k)).isSome)) H := by rw [valV_some k h1]; exact q
      cases neg with
      | false => exact d_in (by omega) I g rx fun s3 I3 => ⟨.bl _, H, I3, rfl, q'⟩
      | true => exact d_notIn (by omega) I g rx fun s3 I3 => ⟨.bl _, H, I3, rfl, q'⟩
  | _ => cases h
theorem op_cm (o : Cm) (hK : c.K = X.K) (hu : X.A.units + 65 < cLine) : OpR X (compareOp (toCm o)) (rCm c z E o) := by
  intro pins s σ H x y v u Q I rx ry h
  obtain ⟨w, M, d, e, m, rd, re, sat⟩ := h
  cases o with
  | eq =>
    obtain ⟨hc, sat⟩ := if_sat sat
    simp only [Bool.and_eq_true, decide_eq_true_eq] at hc
    obtain ⟨⟨⟨h1, h2⟩, h3⟩, h4⟩ := hc
    have dd := RV.dp m rd h1
    have de := RV.dp m re h2
    rw [hK] at dd de
    exact op_eqD (by omega) pins s σ H x y v u Q I rx ry ⟨_, _, dd, de, RV.shaped rd h1 h3, RV.shaped re h2 h4, by rw [eqv_pyd d e h1 h2]; exact sat_bl m sat⟩
  | ne =>
    obtain ⟨hc, sat⟩ := if_sat sat
    simp only [Bool.and_eq_true, decide_eq_true_eq] at hc
    obtain ⟨⟨⟨h1, h2⟩, h3⟩, h4⟩ := hc
    have dd := RV.dp m rd h1
    have de := RV.dp m re h2
    rw [hK] at dd de
    exact op_neD (by omega) pins s σ H x y v u Q I rx ry ⟨_, _, dd, de, RV.shaped rd h1 h3, RV.shaped re h2 h4, by rw [eqv_pyd d e h1 h2]; exact sat_bl m sat⟩
  | lt =>
    cases d with
    | int i => cases e with
      | int j => cases rd; cases re; exact op_lt pins s σ H _ _ v u Q I rx ry ⟨i, j, rfl, rfl, sat_bl m sat⟩
      | _ => exact sat.elim
    | _ => exact sat.elim
  | le =>
    cases d with
    | int i => cases e with
      | int j => cases rd; cases re; exact op_le pins s σ H _ _ v u Q I rx ry ⟨i, j, rfl, rfl, sat_bl m sat⟩
      | _ => exact sat.elim
    | _ => exact sat.elim
  | gt =>
    cases d with
    | int i => cases e with
      | int j => cases rd; cases re; exact op_gt pins s σ H _ _ v u Q I rx ry ⟨i, j, rfl, rfl, sat_bl m sat⟩
      | _ => exact sat.elim
    | _ => exact sat.elim
  | ge =>
    cases d with
    | int i => cases e with
      | int j => cases rd; cases re; exact op_ge pins s σ H _ _ v u Q I rx ry ⟨i, j, rfl, rfl, sat_bl m sat⟩
      | _ => exact sat.elim
    | _ => exact sat.elim
  | is_ =>
    cases e with
    | non =>
      cases re
      refine op_isN pins s σ H x _ v u Q I rx ry ⟨rfl, ?_⟩
      cases d with
      | non => cases rd; exact sat_bl m sat
      | bl b => cases rd; exact sat_bl m sat
      | int b => cases rd; exact sat_bl m sat
      | str b => obtain ⟨rfl, _⟩ := rd; exact sat_bl m sat
      | tup b => obtain ⟨_, _, rfl, _⟩ := rd; exact sat_bl m sat
      | lst b => obtain ⟨_, _, rfl, _⟩ := rd; exact sat_bl m sat
      | frl b => obtain ⟨_, _, rfl, _⟩ := rd; exact sat_bl m sat
      | dct b _ => obtain ⟨_, _, rfl, _⟩ := rd; exact sat_bl m sat
      | obj b _ _ => obtain ⟨_, _, _, rfl, _⟩ := rd; exact sat_bl m sat
      | ref b => obtain ⟨rfl, _⟩ := rd; exact sat_bl m sat
    | _ => exact sat.elim
  | isn =>
    cases e with
    | non =>
      cases re
      refine op_notN pins s σ H x _ v u Q I rx ry ⟨rfl, ?_⟩
      cases d with
      | non => cases rd; exact sat_bl m sat
      | bl b => cases rd; exact sat_bl m sat
      | int b => cases rd; exact sat_bl m sat
      | str b => obtain ⟨rfl, _⟩ := rd; exact sat_bl m sat
      | tup b => obtain ⟨_, _, rfl, _⟩ := rd; exact sat_bl m sat
      | lst b => obtain ⟨_, _, rfl, _⟩ := rd; exact sat_bl m sat
      | frl b => obtain ⟨_, _, rfl, _⟩ := rd; exact sat_bl m sat
      | dct b _ => obtain ⟨_, _, rfl, _⟩ := rd; exact sat_bl m sat
      | obj b _ _ => obtain ⟨_, _, _, rfl, _⟩ := rd; exact sat_bl m sat
      | ref b => obtain ⟨rfl, _⟩ := rd; exact sat_bl m sat
    | _ => exact sat.elim
  | in_ =>
    have sat : Sat c z E w M H ((opIn d e M).elim .bad fun b => .ok (.bl b) M) Q := sat
    cases hb : opIn d e M with
    | none => rw [hb] at sat; exact sat.elim
    | some b => rw [hb] at sat; exact op_in false hK hu I rx ry m rd re hb (sat_bl m sat)
  | nin =>
    have sat : Sat c z E w M H ((opIn d e M).elim .bad fun b => .ok (.bl (!b)) M) Q := sat
    cases hb : opIn d e M with
    | none => rw [hb] at sat; exact sat.elim
    | some b => rw [hb] at sat; exact op_in true hK hu I rx ry m rd re hb (sat_bl m sat)
end
end Z


set_option Elab.async false
set_option linter.all false
set_option autoImplicit false
set_option maxRecDepth 100000
set_option maxHeartbeats 4000000
namespace Z
open PySem L2

section
variable {X : Cx} {c : Cz} {z : Ez} {E : XK}
/-! ### items, slices -/
def rIxZ (c : Cz) (z : Ez) (E : XK) : R2 := fun x y H Q => ∃ w M d e, MR c w M H ∧ RV c w H d x ∧ RV c w H e y ∧ Sat c z E w M H (opIdx d e M) Q
theorem ixOf_N (n : Nat) (i : Int) : ixOf n i = ixN n i := rfl
theorem at_get {w : Wd} {ds : List D} {xs : List V} {i : Int} {d : D} (r : Rs c w ds xs) (h : ((ixOf ds.length i).bind fun j => ds[j]?) = some d) : ∃ v, atI xs i = some v ∧ R c w d v := by
  cases e : ixOf ds.length i with
  | none => rw [e] at h; cases h
  | some j =>
    rw [e] at h
    obtain ⟨v, h1, h2⟩ := r.get (i := j) h
    refine ⟨v, ?_, h2⟩
    show (ixN xs.length i).bind (fun j => xs[j]?) = some v
    rw [r.length, ← ixOf_N, e]
    exact h1
theorem match_sat {α : Type} {w : Wd} {M : Sto} {H : Hp} {Q : VK} {o : Option α} {f : α → Res} (h : Sat c z E w M H (o.elim .bad f) Q) : ∃ d, o = some d ∧ Sat c z E w M H (f d) Q := by
  cases o with
  | none => exact h.elim
  | some d => exact ⟨d, rfl, h⟩
theorem ix_z (hK : c.K = X.K) (hu : X.A.units + 65 < cLine) : IxR X (rIxZ c z E) := by
  intro value slice pins s σ H x y v u Q I rx ry h hs
  obtain ⟨w, M, d, e, m, rd, re, sat⟩ := h
  cases d with
  | lst ds => cases e with
    | int i =>
      cases re
      obtain ⟨p, xs, rfl, hp, r⟩ := rd
      obtain ⟨d, hd, sat⟩ := match_sat sat
      obtain ⟨v', h1, h2⟩ := at_get r hd
      exact ix_list value slice pins s σ H _ _ v u Q I rx ry ⟨p, xs, i, v', rfl, rfl, .inl (.inl hp), h1, sat.here m h2⟩ hs
    | _ => exact sat.elim
  | frl ds => cases e with
    | int i =>
      cases re
      obtain ⟨p, xs, rfl, hp, r⟩ := RV.frl m rd
      obtain ⟨d, hd, sat⟩ := match_sat sat
      obtain ⟨v', h1, h2⟩ := at_get r hd
      exact ix_list value slice pins s σ H _ _ v u Q I rx ry ⟨p, xs, i, v', rfl, rfl, hK ▸ hp, h1, sat.here m h2⟩ hs
    | _ => exact sat.elim
  | tup ds => cases e with
    | int i =>
      cases re
      obtain ⟨p, xs, rfl, hp, r⟩ := RV.tup m rd
      obtain ⟨d, hd, sat⟩ := match_sat sat
      obtain ⟨v', h1, h2⟩ := at_get r hd
      exact ix_tup value slice pins s σ H _ _ v u Q I rx ry ⟨p, xs, i, v', rfl, rfl, hK ▸ hp, h1, sat.here m h2⟩ hs
    | _ => exact sat.elim
  | str x => cases e with
    | int i =>
      cases re
      obtain ⟨rfl, ho⟩ := rd
      have sat : Sat c z E w M H (if x.length ≤ LIM then (((ixOf x.length i).bind fun j => x[j]?).elim .bad fun d => .ok (.str [d]) M) else .bad) Q := sat
      by_cases hl : x.length ≤ LIM
      · rw [if_pos hl] at sat
        obtain ⟨d, hd, sat⟩ := match_sat sat
        have hx : (sS x).cps.toList = x := by show (x.toArray).toList = x; simp
        have hmem : d ∈ x := by
          cases e : ixOf x.length i with
          | none => rw [e] at hd; cases hd
          | some j => rw [e] at hd; exact List.mem_of_getElem? hd
        exact ix_str value slice pins s σ H _ _ v u Q I rx ry ⟨_, i, d, rfl, rfl, by rw [sS_len, LIM_eq]; exact hl, by rw [hx]; exact hd, sat.here m ⟨rfl, fun n hn => by rw [List.mem_singleton.mp hn]; exact ho d hmem⟩⟩ hs
      · rw [if_neg hl] at sat; exact sat.elim
    | _ => exact sat.elim
  | dct ks vs =>
    have sat : Sat c z E w M H ((dkOf e).elim .bad fun k => ((ks.zip vs).lookup k).elim .bad fun d => .ok d M) Q := by
      cases e <;> exact sat
    obtain ⟨k, hk, sat⟩ := match_sat sat
    obtain ⟨d, hd, sat⟩ := match_sat sat
    obtain ⟨a, kvs, rfl, ha, h1, h2, h3⟩ := rd
    have ex := dkOf_v hk re
    subst ex
    obtain rfl : v = Value.ref a := rx
    have q := valV_lookup (c := c) (w := w) k h1 h3
    rw [hd] at q
    obtain ⟨v', q1, q2⟩ := q
    have g := DGet.k (k := kK k) ha
    rw [q1] at g
    exact PyProof.Rows.tail_any (dict_typeIs I g) PySem.F.slot_dict_getitem.lookup (d_getItem (by omega) I g ry fun w' s3 I3 rw' => ⟨v', H, I3, rw', sat.here m q2⟩) hs
  | _ => exact sat.elim
def rSlZ (c : Cz) (z : Ez) (E : XK) : V → Option Int → Option Int → Hp → VK → Prop := fun x lo hi H Q => ∃ w M d, MR c w M H ∧ RV c w H d x ∧ Sat c z E w M H (opCut d lo hi M) Q
theorem cut_rel {w : Wd} {ds : List D} {xs : List V} (lo hi : Option Int) (r : Rs c w ds xs) : Rs c w (cutZ ds lo hi) (cutV xs lo hi) := by
  have e : ∀ n d o, sIxZ n d o = HT.sIx n d o := fun n d o => by cases o <;> rfl
  unfold cutZ cutV
  rw [r.length, e, e]
  exact (r.drop _).take _
theorem SlR.orZ {r r' : V → Option Int → Option Int → Hp → VK → Prop} (h : SlR X r) (h' : SlR X r') : SlR X (fun x lo hi H Q => r x lo hi H Q ∨ r' x lo hi H Q) := L2.SlR.or h h'
theorem mem_cut {α : Type} {xs : List α} {lo hi : Option Int} {x : α} (h : x ∈ cutZ xs lo hi) : x ∈ xs := List.mem_of_mem_drop (List.mem_of_mem_take h)
end
end Z


set_option Elab.async false
set_option linter.all false
set_option autoImplicit false
set_option maxRecDepth 100000
set_option maxHeartbeats 4000000
namespace Z
open PySem L2

section
variable {X : Cx} {c : Cz} {z : Ez} {E : XK}
theorem sl_z (hK : c.K = X.K) : SlR X (rSlZ c z E) := by
  intro pins s σ H x v vl vu lo hi sl Q I rx hs pl pu h
  obtain ⟨w, M, d, m, rd, sat⟩ := h
  cases d with
  | lst ds =>
    obtain ⟨p, xs, rfl, hp, r⟩ := rd
    exact sl_list pins s σ H _ v vl vu lo hi sl Q I rx hs pl pu ⟨p, xs, rfl, .inl (.inl hp), fun n hn => Sat.newL sat m (cut_rel lo hi r) hn⟩
  | frl ds =>
    obtain ⟨p, xs, rfl, hp, r⟩ := RV.frl m rd
    exact sl_list pins s σ H _ v vl vu lo hi sl Q I rx hs pl pu ⟨p, xs, rfl, hK ▸ hp, fun n hn => Sat.newL sat m (cut_rel lo hi r) hn⟩
  | tup ds =>
    obtain ⟨p, xs, rfl, hp, r⟩ := RV.tup m rd
    refine sl_tupA pins s σ H _ v vl vu lo hi sl Q I rx hs pl pu ⟨p, xs, rfl, hK ▸ hp, fun hw => ?_, fun _ n hn => Sat.newT sat m (cut_rel lo hi r) hn⟩
    have e : cutZ ds lo hi = ds := by
      have e : ∀ n d o, sIxZ n d o = HT.sIx n d o := fun n d o => by cases o <;> rfl
      unfold cutZ
      rw [e, e, ← r.length, hw.1, hw.2]
      simp
      rw [r.length]
      simp
    have sat : Sat c z E w M H (.ok (.tup (cutZ ds lo hi)) M) Q := sat
    rw [e] at sat
    exact Sat.here sat m rd
  | str x =>
    obtain ⟨rfl, ho⟩ := rd
    have sat : Sat c z E w M H (if x.length ≤ LIM then .ok (.str (cutZ x lo hi)) M else .bad) Q := sat
    by_cases hl : x.length ≤ LIM
    · rw [if_pos hl] at sat
      refine sl_str pins s σ H _ v vl vu lo hi sl Q I rx hs pl pu ⟨_, rfl, by rw [sS_len, LIM_eq]; exact hl, ?_⟩
      refine Sat.here sat m ⟨?_, fun n hn => ho n (mem_cut hn)⟩
      have e : ∀ n d o, sIxZ n d o = HT.sIx n d o := fun n d o => by cases o <;> rfl
      have hx : (sS x).cps.toList = x := by show (x.toArray).toList = x; simp
      unfold cutS cutZ
      rw [sS_len, hx, e, e]
      rfl
    · rw [if_neg hl] at sat; exact sat.elim
  | _ => exact sat.elim

/-! ### truth -/
theorem tru_v {w : Wd} {M : Sto} {H : Hp} {d : D} {v : V} {b : Bool} (m : MR c w M H) (rd : RV c w H (look M d) v) (h : tru M d = some b) : TruV c.K v H b := by
  unfold tru at h
  revert rd h
  generalize look M d = e
  intro rd h
  cases e with
  | non => cases rd; cases h; rfl
  | bl a => cases rd; cases h; rfl
  | int a => cases rd; cases h; rfl
  | str x =>
    obtain ⟨rfl, _⟩ := rd
    have h : (if x.length ≤ LIM then some (!x.isEmpty) else none) = some b := h
    by_cases hl : x.length ≤ LIM
    · rw [if_pos hl] at h
      cases h
      refine ⟨by rw [sS_len, LIM_eq]; exact hl, ?_⟩
      rw [sS_len]
      cases x with
      | nil => rfl
      | cons a r => 
        have : ((((a :: r).length : Nat) : Int) != 0) = true := by
          rw [bne_iff_ne]; simp only [List.length_cons]; omega
        rw [this]; rfl
    · rw [if_neg hl] at h; cases h
  | tup ds =>
    obtain ⟨p, xs, rfl, hp, r⟩ := RV.tup m rd
    cases h
    refine .inr (.inl ⟨xs, hp, ?_⟩)
    have := r.length
    cases xs <;> cases ds <;> simp at this ⊢
  | lst ds =>
    obtain ⟨p, xs, rfl, hp, r⟩ := rd
    cases h
    refine .inl ⟨xs, .inl (.inl hp), ?_⟩
    have := r.length
    cases xs <;> cases ds <;> simp at this ⊢
  | frl ds =>
    obtain ⟨p, xs, rfl, hp, r⟩ := RV.frl m rd
    cases h
    refine .inl ⟨xs, hp, ?_⟩
    have := r.length
    cases xs <;> cases ds <;> simp at this ⊢
  | dct ks vs =>
    obtain ⟨p, kvs, rfl, hp, h1, h2, r⟩ := rd
    cases h
    refine .inr (.inr ⟨kvs, hp, ?_⟩)
    have := congrArg List.length h1
    cases kvs <;> cases ks <;> simp at this ⊢
  | _ => cases h

/-! ### built-in functions by values -/
def rBi (c : Cz) (z : Ez) (E : XK) (b : Bi) : List V → Hp → VK → Prop := fun xs H Q => ∃ w M ds, MR c w M H ∧ RBs c w M H ds xs ∧ Sat c z E w M H (opBi b ds M) Q
theorem RBs.one {w : Wd} {M : Sto} {H : Hp} {d : D} {xs : List V} (r : RBs c w M H [d] xs) : ∃ x, xs = [x] ∧ RB c w M H d x := by
  obtain ⟨x, r', rfl, h, q⟩ := r
  cases q
  exact ⟨x, rfl, h⟩
theorem RBs.two {w : Wd} {M : Sto} {H : Hp} {d e : D} {xs : List V} (r : RBs c w M H [d, e] xs) : ∃ x y, xs = [x, y] ∧ RB c w M H d x ∧ RB c w M H e y := by
  obtain ⟨x, r', rfl, h, q⟩ := r
  obtain ⟨y, rfl, k⟩ := RBs.one q
  exact ⟨x, y, rfl, h, k⟩
theorem RB.int {w : Wd} {M : Sto} {H : Hp} {i : Int} {x : V} (r : RB c w M H (.int i) x) : x = .int i := by
  rcases r with r | ⟨_, _, mo, _, _, _, _, _, h⟩
  · exact r
  · cases mo <;> cases h
theorem RB.bl {w : Wd} {M : Sto} {H : Hp} {b : Bool} {x : V} (r : RB c w M H (.bl b) x) : x = .bl b := by
  rcases r with r | ⟨_, _, mo, _, _, _, _, _, h⟩
  · exact r
  · cases mo <;> cases h
theorem RB.str {w : Wd} {M : Sto} {H : Hp} {s : List Nat} {x : V} (r : RB c w M H (.str s) x) : x = .str (sS s) ∧ okS s := by
  rcases r with r | ⟨_, _, mo, _, _, _, _, _, h⟩
  · exact r
  · cases mo <;> cases h
theorem asInts_v {w : Wd} : ∀ {ds : List D} {xs : List V} {ns : List Int}, Rs c w ds xs → asInts ds = some ns → xs = ns.map V.int
  | [], _, _, r, h => by cases r; cases h; rfl
  | .int i :: ds, _, ns, ⟨x, xs, e, r, q⟩, h => by
    subst e
    have h : (asInts ds).map (i :: ·) = some ns := h
    cases hd : asInts ds with
    | none => rw [hd] at h; cases h
    | some ms => rw [hd] at h; cases h; cases r; rw [asInts_v q hd]; rfl
  | .non :: _, _, _, _, h | .bl _ :: _, _, _, _, h | .str _ :: _, _, _, _, h | .tup _ :: _, _, _, _, h | .lst _ :: _, _, _, _, h | .frl _ :: _, _, _, _, h | .dct _ _ :: _, _, _, _, h | .obj _ _ _ :: _, _, _, _, h | .ref _ :: _, _, _, _, h => by cases h
theorem asBls_v {w : Wd} : ∀ {ds : List D} {xs : List V} {ns : List Bool}, Rs c w ds xs → asBls ds = some ns → xs = ns.map V.bl
  | [], _, _, r, h => by cases r; cases h; rfl
  | .bl i :: ds, _, ns, ⟨x, xs, e, r, q⟩, h => by
    subst e
    have h : (asBls ds).map (i :: ·) = some ns := h
    cases hd : asBls ds with
    | none => rw [hd] at h; cases h
    | some ms => rw [hd] at h; cases h; cases r; rw [asBls_v q hd]; rfl
  | .non :: _, _, _, _, h | .int _ :: _, _, _, _, h | .str _ :: _, _, _, _, h | .tup _ :: _, _, _, _, h | .lst _ :: _, _, _, _, h | .frl _ :: _, _, _, _, h | .dct _ _ :: _, _, _, _, h | .obj _ _ _ :: _, _, _, _, h | .ref _ :: _, _, _, _, h => by cases h
theorem asStrs_v {w : Wd} : ∀ {ds : List D} {xs : List V} {ns : List (List Nat)}, Rs c w ds xs → asStrs ds = some ns → xs = (ns.map sS).map V.str ∧ ∀ s ∈ ns, okS s
  | [], _, _, r, h => by cases r; cases h; exact ⟨rfl, fun _ h => by cases h⟩
  | .str i :: ds, _, ns, ⟨x, xs, e, r, q⟩, h => by
    subst e
    have h : (asStrs ds).map (i :: ·) = some ns := h
    cases hd : asStrs ds with
    | none => rw [hd] at h; cases h
    | some ms =>
      rw [hd] at h; cases h
      obtain ⟨e1, e2⟩ := asStrs_v q hd
      obtain ⟨r1, r2⟩ := r
      subst r1
      refine ⟨by rw [e1]; rfl, fun s hs => ?_⟩
      rcases List.mem_cons.mp hs with rfl | hs
      · exact r2
      · exact e2 s hs
  | .non :: _, _, _, _, h | .int _ :: _, _, _, _, h | .bl _ :: _, _, _, _, h | .tup _ :: _, _, _, _, h | .lst _ :: _, _, _, _, h | .frl _ :: _, _, _, _, h | .dct _ _ :: _, _, _, _, h | .obj _ _ _ :: _, _, _, _, h | .ref _ :: _, _, _, _, h => by cases h
theorem cl_len (hK : c.K = X.K) : CallR X (.builtin "len") (rBi c z E .len) := by
  intro pins s σ H xs us Q I r h
  obtain ⟨w, M, ds, m, rb, sat⟩ := h
  match ds, rb, sat with
  | [], _, sat => exact sat.elim
  | _ :: _ :: _, _, sat => exact sat.elim
  | [d], rb, sat =>
    obtain ⟨x, rfl, rb1⟩ := rb.one
    have rv := RV.look m rb1
    have sat : Sat c z E w M H (match look M d with
      | .lst ds => .ok (.int ds.length) M
      | .frl ds => .ok (.int ds.length) M
      | .tup ds => .ok (.int ds.length) M
      | .str s => if s.length ≤ LIM then .ok (.int s.length) M else .bad
      | .dct ks _ => .ok (.int ks.length) M
      | _ => .bad) Q := sat
    revert rv sat
    generalize look M d = e
    intro rv sat
    cases e with
    | lst ds =>
      obtain ⟨p, ys, rfl, hp, r'⟩ := rv
      exact call_len_seq pins s σ H _ us Q I r ⟨p, ys, rfl, .inl (.inl (.inl hp)), by rw [r'.length]; exact Sat.here sat m rfl⟩
    | frl ds =>
      obtain ⟨p, ys, rfl, hp, r'⟩ := RV.frl m rv
      exact call_len_seq pins s σ H _ us Q I r ⟨p, ys, rfl, .inl (hK ▸ hp), by rw [r'.length]; exact Sat.here sat m rfl⟩
    | tup ds =>
      obtain ⟨p, ys, rfl, hp, r'⟩ := RV.tup m rv
      exact call_len_seq pins s σ H _ us Q I r ⟨p, ys, rfl, .inr (hK ▸ hp), by rw [r'.length]; exact Sat.here sat m rfl⟩
    | str x =>
      obtain ⟨rfl, _⟩ := rv
      have sat : Sat c z E w M H (if x.length ≤ LIM then .ok (.int x.length) M else .bad) Q := sat
      by_cases hl : x.length ≤ LIM
      · rw [if_pos hl] at sat
        exact call_len_str pins s σ H _ us Q I r ⟨_, rfl, by rw [sS_len, LIM_eq]; exact hl, by rw [sS_len]; exact Sat.here sat m rfl⟩
      · rw [if_neg hl] at sat; exact sat.elim
    | dct ks vs =>
      obtain ⟨p, kvs, rfl, hp, h1, _, _⟩ := rv
      have hl := congrArg List.length h1
      simp only [List.length_map] at hl
      exact call_lenD pins s σ H _ us Q I r ⟨p, kvs, rfl, hp, by rw [hl]; exact Sat.here sat m rfl⟩
    | _ => exact sat.elim
theorem cl_list (hK : c.K = X.K) : CallR X (.type "list") (rBi c z E .list_) := by
  intro pins s σ H xs us Q I r h
  obtain ⟨w, M, ds, m, rb, sat⟩ := h
  match ds, rb, sat with
  | [], _, sat => exact sat.elim
  | _ :: _ :: _, _, sat => exact sat.elim
  | [d], rb, sat =>
    obtain ⟨x, rfl, rb1⟩ := rb.one
    have rv := RV.look m rb1
    have sat : Sat c z E w M H (match look M d with
      | .lst ds => .ok (.lst ds) M
      | .frl ds => .ok (.lst ds) M
      | .tup ds => .ok (.lst ds) M
      | _ => .bad) Q := sat
    revert rv sat
    generalize look M d = e
    intro rv sat
    cases e with
    | lst ds =>
      obtain ⟨p, ys, rfl, hp, r'⟩ := rv
      exact call_list_of pins s σ H _ us Q I r ⟨p, ys, rfl, .inl (.inl (.inl hp)), fun n hn => Sat.newL sat m r' hn⟩
    | frl ds =>
      obtain ⟨p, ys, rfl, hp, r'⟩ := RV.frl m rv
      exact call_list_of pins s σ H _ us Q I r ⟨p, ys, rfl, .inl (hK ▸ hp), fun n hn => Sat.newL sat m r' hn⟩
    | tup ds =>
      obtain ⟨p, ys, rfl, hp, r'⟩ := RV.tup m rv
      exact call_list_of pins s σ H _ us Q I r ⟨p, ys, rfl, .inr (hK ▸ hp), fun n hn => Sat.newL sat m r' hn⟩
    | _ => exact sat.elim
theorem cl_tuple (hK : c.K = X.K) : CallR X (.type "tuple") (rBi c z E .tuple_) := by
  intro pins s σ H xs us Q I r h
  obtain ⟨w, M, ds, m, rb, sat⟩ := h
  match ds, rb, sat with
  | [], _, sat => exact sat.elim
  | _ :: _ :: _, _, sat => exact sat.elim
  | [d], rb, sat =>
    obtain ⟨x, rfl, rb1⟩ := rb.one
    have rv := RV.look m rb1
    have sat : Sat c z E w M H (match look M d with
      | .lst ds => .ok (.tup ds) M
      | .tup ds => .ok (.tup ds) M
      | _ => .bad) Q := sat
    revert rv sat
    generalize look M d = e
    intro rv sat
    cases e with
    | lst ds =>
      obtain ⟨p, ys, rfl, hp, r'⟩ := rv
      exact call_tuple_of pins s σ H _ us Q I r ⟨p, ys, rfl, .inl ⟨.inl (.inl hp), fun n hn => Sat.newT sat m r' hn⟩⟩
    | tup ds =>
      have rv' := rv
      obtain ⟨p, ys, rfl, hp, r'⟩ := RV.tup m rv
      exact call_tuple_of pins s σ H _ us Q I r ⟨p, ys, rfl, .inr ⟨hK ▸ hp, Sat.here sat m rv'⟩⟩
    | _ => exact sat.elim
theorem cl_int : CallR X (.type "int") (rBi c z E .int_) := by
  intro pins s σ H xs us Q I r h
  obtain ⟨w, M, ds, m, rb, sat⟩ := h
  match ds, rb, sat with
  | [], _, sat => exact sat.elim
  | d :: _ :: _, _, sat => cases d <;> exact sat.elim
  | [d], rb, sat =>
    obtain ⟨x, rfl, rb1⟩ := rb.one
    cases d with
    | int i => cases rb1.int; exact call_int1 pins s σ H _ us Q I r (.inl ⟨i, rfl, Sat.here sat m rfl⟩)
    | bl b => cases rb1.bl; exact call_int1 pins s σ H _ us Q I r (.inr ⟨b, rfl, Sat.here sat m rfl⟩)
    | str y =>
      obtain ⟨rfl, _⟩ := rb1.str
      have sat : Sat c z E w M H (if y.length ≤ 640 then (PySem.intText? (sS y)).elim .bad fun n => .ok (.int n) M else .bad) Q := sat
      by_cases h1 : y.length ≤ 640
      case neg => rw [if_neg h1] at sat; exact sat.elim
      rw [if_pos h1] at sat
      obtain ⟨n, h2, sat⟩ := match_sat sat
      exact call_int_str pins s σ H _ us Q I r ⟨_, n, rfl, h2, by rw [sS_len]; exact h1, Sat.here sat m rfl⟩
    | _ => exact sat.elim
theorem toS_eq (i : Int) : (Str.ofString (toString i)) = sS (strI i) := Str.ofString_eq_toList _
theorem strI_ok (i : Int) : okS (strI i) := by
  intro n hn
  obtain ⟨ch, _, rfl⟩ := List.mem_map.mp hn
  have := ch.valid
  rcases this with h | h
  · show ch.val.toNat < 1114112
    have : ch.val.toNat < 0xd800 := h
    omega
  · show ch.val.toNat < 1114112
    have : ch.val.toNat < 0x110000 := h.2
    omega
theorem cl_str : CallR X (.type "str") (rBi c z E .str_) := by
  intro pins s σ H xs us Q I r h
  obtain ⟨w, M, ds, m, rb, sat⟩ := h
  match ds, rb, sat with
  | [], _, sat => exact sat.elim
  | d :: _ :: _, _, sat => cases d <;> exact sat.elim
  | [d], rb, sat =>
    obtain ⟨x, rfl, rb1⟩ := rb.one
    cases d with
    | int i =>
      cases rb1.int
      have sat : Sat c z E w M H (if i.natAbs.log2 < 1920 then .ok (.str (strI i)) M else .bad) Q := sat
      by_cases hl : i.natAbs.log2 < 1920
      · rw [if_pos hl] at sat
        exact call_str_int pins s σ H _ us Q I r ⟨i, rfl, hl, Sat.here sat m ⟨congrArg V.str (toS_eq i), strI_ok i⟩⟩
      · rw [if_neg hl] at sat; exact sat.elim
    | _ => exact sat.elim
theorem cl_min (hc : X.calm = true) : CallR X (.builtin "min") (rBi c z E .min_) := by
  intro pins s σ H xs us Q I r h
  obtain ⟨w, M, ds, m, rb, sat⟩ := h
  match ds, rb, sat with
  | [.int i, .int j], rb, sat =>
    obtain ⟨x, y, rfl, r1, r2⟩ := rb.two
    cases r1.int; cases r2.int
    exact call_min2 hc pins s σ H _ us Q I r ⟨i, j, rfl, Sat.here sat m rfl⟩
  | [], _, sat => exact sat.elim
  | [d], _, sat => cases d <;> exact sat.elim
  | d :: e :: f :: g, _, sat => cases d <;> first | exact sat.elim | (cases e <;> exact sat.elim)
  | [.non, _], _, sat | [.bl _, _], _, sat | [.str _, _], _, sat | [.tup _, _], _, sat | [.lst _, _], _, sat | [.frl _, _], _, sat | [.dct _ _, _], _, sat | [.obj _ _ _, _], _, sat | [.ref _, _], _, sat => exact sat.elim
  | [.int _, .non], _, sat | [.int _, .bl _], _, sat | [.int _, .str _], _, sat | [.int _, .tup _], _, sat | [.int _, .lst _], _, sat | [.int _, .frl _], _, sat | [.int _, .dct _ _], _, sat | [.int _, .obj _ _ _], _, sat | [.int _, .ref _], _, sat => exact sat.elim
theorem cl_max (hc : X.calm = true) : CallR X (.builtin "max") (rBi c z E .max_) := by
  intro pins s σ H xs us Q I r h
  obtain ⟨w, M, ds, m, rb, sat⟩ := h
  match ds, rb, sat with
  | [.int i, .int j], rb, sat =>
    obtain ⟨x, y, rfl, r1, r2⟩ := rb.two
    cases r1.int; cases r2.int
    exact call_max2 hc pins s σ H _ us Q I r ⟨i, j, rfl, Sat.here sat m rfl⟩
  | [], _, sat => exact sat.elim
  | [d], _, sat => cases d <;> exact sat.elim
  | d :: e :: f :: g, _, sat => cases d <;> first | exact sat.elim | (cases e <;> exact sat.elim)
  | [.non, _], _, sat | [.bl _, _], _, sat | [.str _, _], _, sat | [.tup _, _], _, sat | [.lst _, _], _, sat | [.frl _, _], _, sat | [.dct _ _, _], _, sat | [.obj _ _ _, _], _, sat | [.ref _, _], _, sat => exact sat.elim
  | [.int _, .non], _, sat | [.int _, .bl _], _, sat | [.int _, .str _], _, sat | [.int _, .tup _], _, sat | [.int _, .lst _], _, sat | [.int _, .frl _], _, sat | [.int _, .dct _ _], _, sat | [.int _, .obj _ _ _], _, sat | [.int _, .ref _], _, sat => exact sat.elim
theorem cl_abs : CallR X (.builtin "abs") (rBi c z E .abs_) := by
  intro pins s σ H xs us Q I r h
  obtain ⟨w, M, ds, m, rb, sat⟩ := h
  match ds, rb, sat with
  | [], _, sat => exact sat.elim
  | d :: _ :: _, _, sat => cases d <;> exact sat.elim
  | [d], rb, sat =>
    obtain ⟨x, rfl, rb1⟩ := rb.one
    cases d with
    | int i => cases rb1.int; exact call_abs pins s σ H _ us Q I r ⟨i, rfl, Sat.here sat m rfl⟩
    | _ => exact sat.elim
theorem elim_sat {α : Type} {w : Wd} {M : Sto} {H : Hp} {Q : VK} {o : Option α} {f : α → Res} (h : Sat c z E w M H (o.elim .bad f) Q) : ∃ d, o = some d ∧ Sat c z E w M H (f d) Q := match_sat h
theorem cl_sum (hK : c.K = X.K) (hc : X.calm = true) : CallR X (.builtin "sum") (rBi c z E .sum_) := by
  intro pins s σ H xs us Q I r h
  obtain ⟨w, M, ds, m, rb, sat⟩ := h
  match ds, rb, sat with
  | [], _, sat => exact sat.elim
  | _ :: _ :: _, _, sat => exact sat.elim
  | [d], rb, sat =>
    obtain ⟨x, rfl, rb1⟩ := rb.one
    have rv := RV.look m rb1
    have sat : Sat c z E w M H (match look M d with
      | .lst ds => (asInts ds).elim .bad fun ns => .ok (.int ns.sum) M
      | _ => .bad) Q := sat
    revert rv sat
    generalize look M d = e
    intro rv sat
    cases e with
    | lst ds =>
      obtain ⟨p, ys, rfl, hp, r'⟩ := rv
      obtain ⟨ns, hn, sat⟩ := match_sat sat
      exact cr_sum hc pins s σ H _ us Q I r ⟨p, ns, rfl, by rw [asInts_v r' hn] at hp; exact .inl (.inl hp), Sat.here sat m rfl⟩
    | _ => exact sat.elim
theorem cl_any (hK : c.K = X.K) (hc : X.calm = true) : CallR X (.builtin "any") (rBi c z E .any_) := by
  intro pins s σ H xs us Q I r h
  obtain ⟨w, M, ds, m, rb, sat⟩ := h
  match ds, rb, sat with
  | [], _, sat => exact sat.elim
  | _ :: _ :: _, _, sat => exact sat.elim
  | [d], rb, sat =>
    obtain ⟨x, rfl, rb1⟩ := rb.one
    have rv := RV.look m rb1
    have sat : Sat c z E w M H (match look M d with
      | .lst ds => (asBls ds).elim .bad fun ns => .ok (.bl (ns.any id)) M
      | _ => .bad) Q := sat
    revert rv sat
    generalize look M d = e
    intro rv sat
    cases e with
    | lst ds =>
      obtain ⟨p, ys, rfl, hp, r'⟩ := rv
      obtain ⟨ns, hn, sat⟩ := match_sat sat
      exact cr_any hc pins s σ H _ us Q I r ⟨p, ns, rfl, by rw [asBls_v r' hn] at hp; exact .inl (.inl hp), Sat.here sat m rfl⟩
    | _ => exact sat.elim
theorem cl_all (hK : c.K = X.K) (hc : X.calm = true) : CallR X (.builtin "all") (rBi c z E .all_) := by
  intro pins s σ H xs us Q I r h
  obtain ⟨w, M, ds, m, rb, sat⟩ := h
  match ds, rb, sat with
  | [], _, sat => exact sat.elim
  | _ :: _ :: _, _, sat => exact sat.elim
  | [d], rb, sat =>
    obtain ⟨x, rfl, rb1⟩ := rb.one
    have rv := RV.look m rb1
    have sat : Sat c z E w M H (match look M d with
      | .lst ds => (asBls ds).elim .bad fun ns => .ok (.bl (ns.all id)) M
      | _ => .bad) Q := sat
    revert rv sat
    generalize look M d = e
    intro rv sat
    cases e with
    | lst ds =>
      obtain ⟨p, ys, rfl, hp, r'⟩ := rv
      obtain ⟨ns, hn, sat⟩ := match_sat sat
      exact cr_all hc pins s σ H _ us Q I r ⟨p, ns, rfl, by rw [asBls_v r' hn] at hp; exact .inl (.inl hp), Sat.here sat m rfl⟩
    | _ => exact sat.elim
theorem cl_ord : CallR X (.builtin "ord") (rBi c z E .ord_) := by
  intro pins s σ H xs us Q I r h
  obtain ⟨w, M, ds, m, rb, sat⟩ := h
  match ds, rb, sat with
  | [.str [k]], rb, sat =>
    obtain ⟨x, rfl, rb1⟩ := rb.one
    obtain ⟨rfl, _⟩ := rb1.str
    exact call_ord pins s σ H _ us Q I r ⟨_, rfl, rfl, Sat.here sat m rfl⟩
  | [], _, sat => exact sat.elim
  | [.str []], _, sat | [.str (_ :: _ :: _)], _, sat => exact sat.elim
  | [.non], _, sat | [.bl _], _, sat | [.int _], _, sat | [.tup _], _, sat | [.lst _], _, sat | [.frl _], _, sat | [.dct _ _], _, sat | [.obj _ _ _], _, sat | [.ref _], _, sat => exact sat.elim
  | .str y :: e :: f, _, sat => cases y with
    | nil => exact sat.elim
    | cons a b => cases b <;> exact sat.elim
  | .non :: _ :: _, _, sat | .bl _ :: _ :: _, _, sat | .int _ :: _ :: _, _, sat | .tup _ :: _ :: _, _, sat | .lst _ :: _ :: _, _, sat | .frl _ :: _ :: _, _, sat | .dct _ _ :: _ :: _, _, sat | .obj _ _ _ :: _ :: _, _, sat | .ref _ :: _ :: _, _, sat => exact sat.elim
/-! ### methods of built-in types by values -/
def rBm (c : Cz) (z : Ez) (E : XK) (b : Bm) : V → List V → Hp → VK → Prop := fun x xs H Q => ∃ w M d ds, MR c w M H ∧ RB c w M H d x ∧ RBs c w M H ds xs ∧ Sat c z E w M H (opBm b d ds M) Q
theorem splitAt1_ne (k : Nat) : ∀ x : List Nat, splitAt1 k x ≠ []
  | [] => by simp [splitAt1]
  | a :: x => by
    unfold splitAt1
    split
    · simp
    · cases splitAt1 k x <;> simp
theorem spl1 (k : Nat) : ∀ (x acc : List Nat), TL.spl [k] 0 acc x = match splitAt1 k x with
    | [] => [acc]
    | y :: ys => (acc ++ y) :: ys
  | [], acc => by
    show [acc] = [acc ++ []]
    rw [List.append_nil]
  | a :: x, acc => by
    have ih := spl1 k x
    show (if TL.pre [k] (a :: x) = true then acc :: TL.spl [k] 0 [] x else TL.spl [k] 0 (acc ++ [a]) x) = _
    have hp : TL.pre [k] (a :: x) = decide (a = k) := by
      show ([a] == [k]) = decide (a = k)
      by_cases h : a = k
      · subst h; simp
      · simp [h]
    rw [hp]
    unfold splitAt1
    by_cases h : a = k
    · rw [if_pos (decide_eq_true h), if_pos h, ih]
      cases e : splitAt1 k x with
      | nil => exact absurd e (splitAt1_ne k x)
      | cons y ys => simp
    · rw [if_neg (by simpa using h), if_neg h, ih]
      cases splitAt1 k x with
      | nil => simp
      | cons y ys => simp
theorem splitAt1_mem (k : Nat) : ∀ (x : List Nat) (y : List Nat), y ∈ splitAt1 k x → ∀ n ∈ y, n ∈ x
  | [], y, h, n, hn => by
    simp only [splitAt1, List.mem_singleton] at h
    subst h; exact hn
  | a :: x, y, h, n, hn => by
    unfold splitAt1 at h
    split at h
    · rcases List.mem_cons.mp h with rfl | h
      · cases hn
      · exact List.mem_cons_of_mem _ (splitAt1_mem k x y h n hn)
    · cases e : splitAt1 k x with
      | nil => rw [e] at h; simp only [List.mem_singleton] at h; subst h; simp only [List.mem_singleton] at hn; subst hn; exact List.mem_cons_self
      | cons b bs =>
        rw [e] at h
        rcases List.mem_cons.mp h with rfl | h
        · rcases List.mem_cons.mp hn with rfl | hn
          · exact List.mem_cons_self
          · exact List.mem_cons_of_mem _ (splitAt1_mem k x b (by rw [e]; exact List.mem_cons_self) n hn)
        · exact List.mem_cons_of_mem _ (splitAt1_mem k x y (by rw [e]; exact List.mem_cons_of_mem _ h) n hn)
theorem tl_sS (x : List Nat) : TL.tl (sS x) = x := by show (x.toArray).toList = x; simp
theorem sS_tl (x : Str) : sS (TL.tl x) = x := by
  obtain ⟨a⟩ := x
  show (⟨(a.toList).toArray⟩ : Str) = ⟨a⟩
  simp
theorem split_eq (k : Nat) (hk : k < 256) (x : List Nat) : Txt.split (sS x) (sS [k]) = (splitAt1 k x).map sS := by
  have h := TL.split_spl (sS x) (sS [k]) (by rw [tl_sS]; simp) (TL.kind_ok (by show (#[k]).all (· < 256) = true; simp [hk]))
  rw [tl_sS, tl_sS, spl1] at h
  have e : (Txt.split (sS x) (sS [k])).map TL.tl = splitAt1 k x := by
    rw [h]
    have := splitAt1_ne k x
    cases hs : splitAt1 k x with
    | nil => exact absurd hs this
    | cons y ys => rfl
  rw [← e, List.map_map]
  have : (sS ∘ TL.tl) = id := funext fun y => sS_tl y
  rw [this, List.map_id]
theorem strs_rel {w : Wd} : ∀ ys : List (List Nat), (∀ y ∈ ys, okS y) → Rs c w (ys.map D.str) ((ys.map sS).map V.str)
  | [], _ => rfl
  | y :: ys, h => ⟨_, _, rfl, ⟨rfl, h y List.mem_cons_self⟩, strs_rel ys fun z hz => h z (List.mem_cons_of_mem _ hz)⟩
theorem join_eqZ (s : List Nat) : ∀ xs : List (List Nat), Txt.join (sS s) (xs.map sS) = sS (joinL s xs)
  | [] => by rw [TL.join_eq]; rfl
  | [x] => by rw [TL.join_eq]; rfl
  | x :: y :: r => by
    have ih := join_eqZ s (y :: r)
    rw [TL.join_eq] at ih ⊢
    show sS x ++ sS s ++ Str.join (sS s) ((y :: r).map sS) = sS (x ++ s ++ joinL s (y :: r))
    rw [ih, sS_app, sS_app]
theorem joinL_ok (s : List Nat) (hs : okS s) : ∀ xs : List (List Nat), (∀ x ∈ xs, okS x) → okS (joinL s xs)
  | [], _ => fun n hn => by cases hn
  | [x], h => h x List.mem_cons_self
  | x :: y :: r, h => okS_app (okS_app (h x List.mem_cons_self) hs) (joinL_ok s hs (y :: r) fun z hz => h z (List.mem_cons_of_mem _ hz))
theorem first_v {w : Wd} {y : D} {u : V} (ry : R c w y u) (hy : flat y = true) : ∀ {ds : List D} {xs : List V} {j : Nat}, Rs c w ds xs → ds.all flat = true → firstIx y ds = some j →
    ∃ v, xs[j]? = some v ∧ eqV v u = true ∧ ∀ (m : Nat) (v' : V), m < j → xs[m]? = some v' → eqV v' u = false
  | [], _, _, _, _, h => by cases h
  | d :: ds, _, j, ⟨x, xs, e, r, q⟩, hf, h => by
    subst e
    simp only [List.all_cons, Bool.and_eq_true] at hf
    have h : (if eqD d y then some 0 else (firstIx y ds).map (· + 1)) = some j := h
    have e1 := flat_eq r ry hf.1 hy
    by_cases he : eqD d y = true
    · rw [if_pos he] at h
      cases h
      exact ⟨x, rfl, e1.trans he, fun m v' hm => absurd hm (Nat.not_lt_zero _)⟩
    · rw [if_neg he] at h
      cases hr : firstIx y ds with
      | none => rw [hr] at h; cases h
      | some i =>
        rw [hr] at h
        cases h
        obtain ⟨v, h1, h2, h3⟩ := first_v ry hy q hf.2 hr
        refine ⟨v, by simpa using h1, h2, fun m v' hm hv => ?_⟩
        cases m with
        | zero => simp at hv; subst hv; rw [e1]; simpa using he
        | succ m => exact h3 m v' (Nat.lt_of_succ_lt_succ hm) (by simpa using hv)
theorem RB.flatR {w : Wd} {M : Sto} {H : Hp} {d : D} {x : V} (r : RB c w M H d x) (h : flat d = true) : R c w d x := by
  rcases r with r | ⟨_, _, mo, _, _, _, _, _, e⟩
  · exact r
  · cases mo <;> cases e <;> simp [flat] at h
theorem str_first {w : Wd} {s : List Nat} : ∀ {ds : List D} {ys : List (List Nat)} {j : Nat}, asStrs ds = some ys → firstIx (.str s) ds = some j → ys[j]? = some s ∧ ∀ m, m < j → ys[m]? ≠ some s
  | [], _, _, _, h => by cases h
  | .str a :: ds, ys, j, h, k => by
    have h : (asStrs ds).map (a :: ·) = some ys := h
    cases hd : asStrs ds with
    | none => rw [hd] at h; cases h
    | some zs =>
      rw [hd] at h; cases h
      have k : (if decide (a = s) = true then some 0 else (firstIx (.str s) ds).map (· + 1)) = some j := k
      by_cases he : a = s
      · rw [if_pos (decide_eq_true he)] at k
        cases k
        exact ⟨by simp [he], fun m hm => absurd hm (Nat.not_lt_zero _)⟩
      · rw [if_neg (by simpa using he)] at k
        cases hr : firstIx (.str s) ds with
        | none => rw [hr] at k; cases k
        | some i =>
          rw [hr] at k; cases k
          obtain ⟨h1, h2⟩ := str_first (w := w) hd hr
          refine ⟨by simpa using h1, fun m hm => ?_⟩
          cases m with
          | zero => simpa using he
          | succ m => simpa using h2 m (Nat.lt_of_succ_lt_succ hm)
  | .non :: _, _, _, h, _ | .int _ :: _, _, _, h, _ | .bl _ :: _, _, _, h, _ | .tup _ :: _, _, _, h, _ | .lst _ :: _, _, _, h, _ | .frl _ :: _, _, _, h, _ | .dct _ _ :: _, _, _, h, _ | .obj _ _ _ :: _, _, _, h, _ | .ref _ :: _, _, _, h, _ => by cases h
theorem m_split : MtR X "str.split" (rBm c z E .split) := by
  intro pins s σ H x xs v us Q I rx r h
  obtain ⟨w, M, d, ds, m, rd, rb, sat⟩ := h
  cases d with
  | str a =>
    obtain ⟨rfl, ha⟩ := rd.str
    match ds, rb, sat with
    | [.str [k]], rb, sat =>
      obtain ⟨y, rfl, r1⟩ := rb.one
      obtain ⟨rfl, hk⟩ := r1.str
      have sat : Sat c z E w M H (if k < 256 ∧ a.length + 2 ≤ LIM then .ok (.lst ((splitAt1 k a).map D.str)) M else .bad) Q := sat
      by_cases hl : k < 256 ∧ a.length + 2 ≤ LIM
      · rw [if_pos hl] at sat
        refine mt_split pins s σ H _ _ v us Q I rx r ⟨_, _, rfl, rfl, rfl, by rw [sS_len, LIM_eq]; exact hl.2, fun n hn => ?_⟩
        rw [split_eq k hl.1]
        exact Sat.newL sat m (strs_rel _ fun y hy n hn => ha n (splitAt1_mem k a y hy n hn)) hn
      · rw [if_neg hl] at sat; exact sat.elim
    | [], _, sat => exact sat.elim
    | [.str []], _, sat | [.str (_ :: _ :: _)], _, sat => exact sat.elim
    | [.non], _, sat | [.bl _], _, sat | [.int _], _, sat | [.tup _], _, sat | [.lst _], _, sat | [.frl _], _, sat | [.dct _ _], _, sat | [.obj _ _ _], _, sat | [.ref _], _, sat => exact sat.elim
    | .str y :: e :: f, _, sat => cases y with
      | nil => exact sat.elim
      | cons a b => cases b <;> exact sat.elim
    | .non :: _ :: _, _, sat | .bl _ :: _ :: _, _, sat | .int _ :: _ :: _, _, sat | .tup _ :: _ :: _, _, sat | .lst _ :: _ :: _, _, sat | .frl _ :: _ :: _, _, sat | .dct _ _ :: _ :: _, _, sat | .obj _ _ _ :: _ :: _, _, sat | .ref _ :: _ :: _, _, sat => exact sat.elim
  | _ => exact sat.elim
theorem m_join (hK : c.K = X.K) : MtR X "str.join" (rBm c z E .join) := by
  intro pins s σ H x xs v us Q I rx r h
  obtain ⟨w, M, d, ds, m, rd, rb, sat⟩ := h
  cases d with
  | str a =>
    obtain ⟨rfl, ha⟩ := rd.str
    match ds, rb, sat with
    | [], _, sat => exact sat.elim
    | _ :: _ :: _, _, sat => exact sat.elim
    | [y], rb, sat =>
      obtain ⟨u, rfl, r1⟩ := rb.one
      have rv := RV.look m r1
      have sat : Sat c z E w M H (match look M y with
        | .lst ds => (asStrs ds).elim .bad fun xs => if (xs.map List.length).sum + xs.length * a.length ≤ LIM then .ok (.str (joinL a xs)) M else .bad
        | _ => .bad) Q := sat
      revert rv sat
      generalize look M y = e
      intro rv sat
      cases e with
      | lst ds =>
        obtain ⟨p, ys, rfl, hp, r'⟩ := rv
        obtain ⟨xs, hx, sat⟩ := match_sat sat
        obtain ⟨e1, e2⟩ := asStrs_v r' hx
        by_cases hl : (xs.map List.length).sum + xs.length * a.length ≤ LIM
        · rw [if_pos hl] at sat
          refine mt_join pins s σ H _ _ v us Q I rx r ⟨_, p, xs.map sS, rfl, rfl, .inl (.inl (.inl (by rw [hp, e1]))), ?_, ?_⟩
          · rw [List.map_map, List.length_map, sS_len]
            have : (fun x : Str => x.length) ∘ sS = List.length := funext fun x => sS_len x
            rw [this]; exact hl
          · rw [join_eqZ]
            exact Sat.here sat m ⟨rfl, joinL_ok a ha xs e2⟩
        · rw [if_neg hl] at sat; exact sat.elim
      | _ => exact sat.elim
  | _ => exact sat.elim
/-- xs.index(y): a list's -/
theorem m_index (hK : c.K = X.K) {pins : List (Addr × Obj)} {s : Shared} {σ : St} {H : Hp} {x : V} {xs : List V} {v : Value} {us : List Value} {Q : VK} (I : Inv X pins σ H s) (rx : RelV x v) (r : Vals xs us)
    {w : Wd} {M : Sto} {d : D} {ds ys : List D} (m : MR c w M H) (rd : RB c w M H d x) (rb : RBs c w M H ds xs) (sat : Sat c z E w M H (opBm .index d ds M) Q) (hl : look M d = .lst ys) :
    wpAny (model X.prog X.w) X.A (call (.builtin "list.index") (v :: us)) (EP X pins σ Q) X.xe s := by
  match ds, rb, sat with
  | [], _, sat => exact sat.elim
  | _ :: _ :: _, _, sat => exact sat.elim
  | [y], rb, sat =>
    obtain ⟨u, rfl, r1⟩ := rb.one
    have rv := RV.look m rd
    rw [hl] at rv
    have sat : Sat c z E w M H (opIndex d y M) Q := sat
    unfold opIndex at sat
    rw [hl] at sat
    obtain ⟨p, zs, rfl, hp, r'⟩ := rv
    obtain ⟨hf, sat⟩ := if_sat sat
    obtain ⟨j, hj, sat⟩ := match_sat sat
    simp only [Bool.and_eq_true] at hf
    have r2 := r1.flatR hf.1
    obtain ⟨v', h1, h2, h3⟩ := first_v r2 hf.1 r' hf.2 hj
    exact mt_index pins s σ H _ _ v us Q I rx r ⟨p, zs, u, j, v', rfl, rfl, .inl (.inl hp), flat_v r2 hf.1, flat_all r' hf.2, h1, h2, h3, Sat.here sat m rfl⟩
theorem m_indexT (hK : c.K = X.K) {pins : List (Addr × Obj)} {s : Shared} {σ : St} {H : Hp} {x : V} {xs : List V} {v : Value} {us : List Value} {Q : VK} (I : Inv X pins σ H s) (rx : RelV x v) (r : Vals xs us)
    {w : Wd} {M : Sto} {d : D} {ds ys : List D} (m : MR c w M H) (rd : RB c w M H d x) (rb : RBs c w M H ds xs) (sat : Sat c z E w M H (opBm .index d ds M) Q) (hl : look M d = .tup ys) :
    wpAny (model X.prog X.w) X.A (call (.builtin "tuple.index") (v :: us)) (EP X pins σ Q) X.xe s := by
  match ds, rb, sat with
  | [], _, sat => exact sat.elim
  | _ :: _ :: _, _, sat => exact sat.elim
  | [y], rb, sat =>
    obtain ⟨u, rfl, r1⟩ := rb.one
    have rv := RV.look m rd
    rw [hl] at rv
    have sat : Sat c z E w M H (opIndex d y M) Q := sat
    unfold opIndex at sat
    rw [hl] at sat
    obtain ⟨p, zs, rfl, hp, r'⟩ := RV.tup m rv
    cases y with
    | str q =>
      obtain ⟨xs, hx, sat⟩ := match_sat sat
      obtain ⟨j, hj, sat⟩ := match_sat sat
      obtain ⟨rfl, _⟩ := r1.str
      obtain ⟨e1, e2⟩ := asStrs_v r' hx
      obtain ⟨h1, h2⟩ := str_first (w := w) hx hj
      refine mt_tup_index pins s σ H _ _ v us Q I rx r ⟨p, xs.map sS, sS q, j, rfl, rfl, by rw [← e1, ← hK]; exact hp, by rw [List.getElem?_map, h1]; rfl, fun n hn e => ?_, Sat.here sat m rfl⟩
      rw [List.getElem?_map] at e
      cases hm : xs[n]? with
      | none => rw [hm] at e; cases e
      | some b =>
        rw [hm] at e
        have e : some (sS b) = some (sS q) := e
        exact h2 n hn (by rw [hm, sS_inj (Option.some.inj e)])
    | _ => exact sat.elim
end
end Z


set_option Elab.async false
set_option linter.all false
set_option autoImplicit false
set_option maxRecDepth 100000
set_option maxHeartbeats 4000000
namespace Z
open PySem L2

/-- the text's tables -/
structure Prg where
  /-- a class whose instances never change -/
  frz : Nat → Bool
  ini : Nat → Nat
  mth : Nat → Nat → Option Nat
  prp : Nat → Nat → Option Nat
  gl : Nat → D
  kd : Nat → List (List Nat × D)
  /-- a def's parameters: those that are lent -/
  brw : Nat → List Bool
  /-- the defaults that fill up behind n values -/
  dfl : Nat → Nat → List D
  /-- a call with keywords: the def, what stands between the values and the keywords' -/
  kq : Nat → Nat × List D
  /-- how many parameters -/
  ar : Nat → Nat
  /-- f is a field of class k's instances -/
  fld : Nat → Nat → Bool
  /-- an error's field; does an except clause take it -/
  exf : Nat → Nat
  exm : Nat → Nat → Option Bool
  /-- isinstance: the answers -/
  isa : Ty → Ty → Option Bool
  /-- a def's second reading, for calls within an except suite -/
  hot : Nat → Bool
abbrev Call := Nat → List D → Sto → Res
def callA (P : Prg) (cl : Call) (f : Nat) (ds : List D) (M : Sto) : Res := if ds.length = P.ar f then cl f ds M else .bad
def Sto.put (M : Sto) (n : Nat) (o : MO) : Sto := { M with m := fun k => if k = n then some o else M.m k }
def Sto.del (M : Sto) (n : Nat) : Sto := { M with m := fun k => if k = n then none else M.m k }
def Sto.new (M : Sto) (o : MO) : Sto := ⟨M.nx + 1, fun k => if k = M.nx then some o else M.m k⟩
def Ress.bind (r : Ress) (f : List D → Sto → Res) : Res := match r with
  | .ok ds M => f ds M
  | .exc k d M => .exc k d M
  | .bad => .bad
def Ress.binds (r : Ress) (f : List D → Sto → Ress) : Ress := match r with
  | .ok ds M => f ds M
  | .exc k d M => .exc k d M
  | .bad => .bad
def Res.binds (r : Res) (f : D → Sto → Ress) : Ress := match r with
  | .ok ds M => f ds M
  | .exc k d M => .exc k d M
  | .bad => .bad
def getV (σ : List SV) (i : Nat) : Option D := match σ[i]? with
  | some (.val d) => some d
  | _ => none
def getB (σ : List SV) (i : Nat) : Option D := match σ[i]? with
  | some (.val d) => some d
  | some (.brw d) => some d
  | some (.own o) => thaw o
  | _ => none
/-- an instance: its class, its fields -/
def insOf (M : Sto) : D → Option (Nat × List Nat × List D)
  | .obj k ns vs => some (k, ns, vs)
  | .ref n => match M.m n with
    | some (.ins k ns vs) => some (k, ns, vs)
    | _ => none
  | _ => none
def putL (f : Nat) (v : D) : List Nat → List D → List D
  | n :: ns, d :: ds => if n = f then v :: ds else d :: putL f v ns ds
  | _, _ => [v]
def putN (f : Nat) : List Nat → List Nat
  | n :: ns => if n = f then n :: ns else n :: putN f ns
  | [] => [f]
def mkObj (P : Prg) (cl : Call) (k : Nat) (ds : List D) (M : Sto) : Res :=
  (callA P cl (P.ini k) (.ref M.nx :: (ds ++ P.dfl (P.ini k) (ds.length + 1))) (M.new (.ins k [] []))).bind fun r M2 => match r with
    | .non => if P.frz k then match M2.m M.nx with
        | some (.ins k' ns vs) => .ok (.obj k' ns vs) (M2.del M.nx)
        | _ => .bad
      else .ok (.ref M.nx) M2
    | _ => .bad
/-- the items that a walk yields -/
def seqI (d : D) : Option (List D) := match d with
  | .lst ds => some ds
  | .frl ds => some ds
  | .tup ds => some ds
  | .str s => some (s.map fun c => .str [c])
  | _ => none
def rngI (lo : Int) (n : Nat) (st : Int) : List D := (List.range n).map fun (i : Nat) => .int (lo + (i : Int) * st)
def B62 : Int := 4611686018427387904
def rngOf : List D → Option (List D)
  | [.int j] => if -B62 ≤ j ∧ j < B62 then some (rngI 0 j.toNat 1) else none
  | [.int i, .int j] => if (-B62 ≤ i ∧ i < B62) ∧ (-B62 ≤ j ∧ j < B62) then some (rngI i (j - i).toNat 1) else none
  | [.int i, .int j, .int (-1)] => if (-B62 ≤ i ∧ i < B62) ∧ (-B62 ≤ j ∧ j < B62) then some (rngI i (i - j).toNat (-1)) else none
  | _ => none
def enumI (n : Nat) : List D → List D
  | [] => []
  | d :: ds => .tup [.int n, d] :: enumI (n + 1) ds
def zipI : List D → List D → List D
  | d :: ds, e :: es => .tup [d, e] :: zipI ds es
  | _, _ => []
def dkD : DK → D
  | .i n => .int n
  | .s x => .str x
def itmI : List DK → List D → List D
  | k :: ks, d :: ds => .tup [dkD k, d] :: itmI ks ds
  | _, _ => []
def setT (σ : List SV) : List Nat → List D → Option (List SV)
  | [], [] => some σ
  | i :: is, d :: ds => setT (σ.set i (.val d)) is ds
  | _, _ => none
/-- a target of a walk: one name, or a tuple's -/
def setI (σ : List SV) (is : List Nat) (d : D) : Option (List SV) := match is with
  | [i] => some (σ.set i (.val d))
  | is => match d with
    | .tup ds => setT σ is ds
    | _ => none
def wipeZ (σ : List SV) : List Nat → List SV
  | [] => σ
  | i :: is => (wipeZ σ is).set i .non
/-- a comprehension's turns -/
def compL (is : List Nat) (cond body : Ev) (σ : List SV) : List D → Sto → List D → Res
  | [], M, acc => .ok (.lst acc) M
  | d :: ds, M, acc => (setI σ is d).elim .bad fun σ1 => match cond σ1 M with
    | .ok x M1 => (tru M1 x).elim .bad fun b => if b then (match body σ1 M1 with
        | .ok y M2 => if acc.length < LIM then compL is cond body σ ds M2 (acc ++ [y]) else .bad
        | _ => .bad) else compL is cond body σ ds M1 acc
    | _ => .bad
/-- the type of a value, for isinstance -/
def tyOf : D → Option Ty
  | .non => some .non_
  | .bl _ => some .bool_
  | .int _ => some .int_
  | .str _ => some .str_
  | .tup _ => some .tuple_
  | .lst _ => some .list_
  | .frl _ => some .list_
  | .dct _ _ => some .dict_
  | .obj k _ _ => some (.cls k)
  | .ref _ => none
def tyM (M : Sto) (d : D) : Option Ty := match d with
  | .ref n => match M.m n with
    | some (.lst ds) => some .list_
    | some (.dct ks vs) => some .dict_
    | some (.ins k _ _) => some (.cls k)
    | _ => none
  | d => tyOf d
/-- isinstance(x, (T, ..)): the first that fits -/
def isAny (P : Prg) (t : Ty) : List Ty → Option Bool
  | [] => some false
  | t' :: ts => (P.isa t t').elim none fun b => if b then some true else isAny P t ts
def isL : D → Bool
  | .lst _ => true
  | _ => false
def isD : D → Bool
  | .dct _ _ => true
  | _ => false
/-- what stands behind the two operands of an own == -/
def eqmR (P : Prg) (cl : Call) (m : Nat) (x y : D) (M1 : Sto) : Res := (insOf M1 x).elim .bad fun q => (insOf M1 y).elim .bad fun q' => if q.1 = q'.1 then
      ((P.mth q.1 m).elim .bad fun f => (callA P cl f ([x, y] ++ P.dfl f 2) M1).bind fun r M2 => match r with
        | .bl b => .ok (.bl b) M2
        | _ => .bad) else .bad
mutual
def evE (P : Prg) (cl : Call) : E → List SV → Sto → Res
  | .lit d, _, M => .ok d M
  | .slot i, σ, M => (getV σ i).elim .bad fun d => .ok d M
  | .bor i, σ, M => (getB σ i).elim .bad fun d => .ok d M
  | .glb g, _, M => .ok (P.gl g) M
  | .bin op a b, σ, M => (evE P cl a σ M).bind fun x M1 => (evE P cl b σ M1).bind fun y M2 => opBin op (look M2 x) (look M2 y) M2
  | .neg a, σ, M => (evE P cl a σ M).bind fun x M1 => match x with
    | .int i => .ok (.int (-i)) M1
    | _ => .bad
  | .not_ a, σ, M => (evE P cl a σ M).bind fun x M1 => (tru M1 x).elim .bad fun b => .ok (.bl (!b)) M1
  | .cmp o a b, σ, M => (evE P cl a σ M).bind fun x M1 => (evE P cl b σ M1).bind fun y M2 => opCmp o (look M2 x) (look M2 y) M2
  | .cmp2 o o' a b e, σ, M => (evE P cl a σ M).bind fun x M1 => (evE P cl b σ M1).bind fun y M2 => (opCmp o (look M2 x) (look M2 y) M2).bind fun r M3 => match r with
    | .bl true => (evE P cl e σ M3).bind fun v M4 => opCmp o' (look M4 y) (look M4 v) M4
    | .bl false => .ok (.bl false) M3
    | _ => .bad
  | .and_ a b, σ, M => (evE P cl a σ M).bind fun x M1 => (tru M1 x).elim .bad fun t => if t then evE P cl b σ M1 else .ok x M1
  | .or_ a b, σ, M => (evE P cl a σ M).bind fun x M1 => (tru M1 x).elim .bad fun t => if t then .ok x M1 else evE P cl b σ M1
  | .ite e a b, σ, M => (evE P cl e σ M).bind fun x M1 => (tru M1 x).elim .bad fun t => if t then evE P cl a σ M1 else evE P cl b σ M1
  | .call f as, σ, M => (evEs P cl as σ M).bind fun ds M1 => callA P cl f (ds ++ P.dfl f ds.length) M1
  | .callk q as zs, σ, M => (evEs P cl as σ M).bind fun ds M1 => (evEs P cl zs σ M1).bind fun es M2 => callA P cl (P.kq q).1 (ds ++ ((P.kq q).2 ++ es)) M2
  | .mk k as, σ, M => (evEs P cl as σ M).bind fun ds M1 => mkObj P cl k ds M1
  | .mth m o as, σ, M => (evE P cl o σ M).bind fun x M1 => (insOf M1 x).elim .bad fun q => if m ∈ q.2.1 then .bad else
      (P.mth q.1 m).elim .bad fun f => (evEs P cl as σ M1).bind fun ds M2 => callA P cl f (x :: (ds ++ P.dfl f (ds.length + 1))) M2
  | .prp m o, σ, M => (evE P cl o σ M).bind fun x M1 => (insOf M1 x).elim .bad fun q => (P.prp q.1 m).elim .bad fun f => match callA P cl f ([x] ++ P.dfl f 1) M1 with
      | .exc _ _ _ => .bad
      | r => r
  | .eqm m a b, σ, M => (evE P cl a σ M).bind fun x M1 => (evE P cl b σ M1).bind fun y M2 => eqmR P cl m x y M2
  | .nem m a b, σ, M => ((evE P cl a σ M).bind fun x M1 => (evE P cl b σ M1).bind fun y M2 => eqmR P cl m x y M2).bind fun x M1 => (tru M1 x).elim .bad fun b => .ok (.bl (!b)) M1
  | .hcall f as, σ, M => (evEs P cl as σ M).bind fun ds M1 => callA P cl f ds M1
  | .att f o, σ, M => (evE P cl o σ M).bind fun x M1 => (insOf M1 x).elim .bad fun q => if P.fld q.1 f then ((q.2.1.zip q.2.2).lookup f).elim .bad fun d => .ok d M1 else .bad
  | .idx a b, σ, M => (evE P cl a σ M).bind fun x M1 => (evE P cl b σ M1).bind fun y M2 => opIdx (look M2 x) (look M2 y) M2
  | .slc a l h, σ, M => (evE P cl a σ M).bind fun x M1 => (evE P cl l σ M1).bind fun y M2 => (asI y).elim .bad fun i => (evE P cl h σ M2).bind fun v M3 => (asI v).elim .bad fun j => opCut (look M3 x) (some i) (some j) M3
  | .slL a l, σ, M => (evE P cl a σ M).bind fun x M1 => (evE P cl l σ M1).bind fun y M2 => (asI y).elim .bad fun i => opCut (look M2 x) (some i) none M2
  | .slH a h, σ, M => (evE P cl a σ M).bind fun x M1 => (evE P cl h σ M1).bind fun y M2 => (asI y).elim .bad fun i => opCut (look M2 x) none (some i) M2
  | .slA a, σ, M => (evE P cl a σ M).bind fun x M1 => opCut (look M1 x) none none M1
  | .tup as, σ, M => (evEs P cl as σ M).bind fun ds M1 => if ds.length ≤ LIM then .ok (.tup ds) M1 else .bad
  | .lst as, σ, M => (evEs P cl as σ M).bind fun ds M1 => if ds.length ≤ LIM then .ok (.lst ds) M1 else .bad
  | .lstR as, σ, M => (evEs P cl as σ M).bind fun ds M1 => if ds.length ≤ LIM then .ok (.ref M1.nx) (M1.new (.lst ds)) else .bad
  | .dctR ks as, σ, M => (evEs P cl as σ M).bind fun ds M1 => if ds.length = ks.length ∧ ks.length ≤ 15 ∧ ks.Nodup then .ok (.ref M1.nx) (M1.new (.dct ks ds)) else .bad
  | .bi b as, σ, M => (evEs P cl as σ M).bind fun ds M1 => opBi b ds M1
  | .bm b o as, σ, M => (evE P cl o σ M).bind fun x M1 => match b with
    | .get | .get2 => if isD (look M1 x) then (evEs P cl as σ M1).bind fun ds M2 => opBm b x ds M2 else .bad
    | .split | .join => match x with
      | .str _ => (evEs P cl as σ M1).bind fun ds M2 => opBm b x ds M2
      | _ => .bad
    | _ => .bad
  | .isi a ts, σ, M => (evE P cl a σ M).bind fun x M1 => (tyM M1 x).elim .bad fun t => (isAny P t ts).elim .bad fun b => .ok (.bl b) M1
  | .exf i f, σ, M => match σ[i]? with
    | some (.exc k d) => if P.exf k = f then .ok d M else .bad
    | _ => .bad
  | .exi i ts, σ, M => match σ[i]? with
    | some (.exc k _) => (isAny P (.exc k) ts).elim .bad fun b => .ok (.bl b) M
    | _ => .bad
  | .kdx g a, σ, M => (evE P cl a σ M).bind fun x M1 => match x with
    | .str s => ((P.kd g).lookup s).elim .bad fun d => .ok d M1
    | _ => .bad
  | .comp is it cond body, σ, M => (itE P cl it σ M).bind fun ds M1 => compL is (evE P cl cond) (evE P cl body) (wipeZ σ is) ds M1 []
def evEs (P : Prg) (cl : Call) : Es → List SV → Sto → Ress
  | .nil, _, M => .ok [] M
  | .cons e es, σ, M => (evE P cl e σ M).binds fun x M1 => (evEs P cl es σ M1).binds fun xs M2 => .ok (x :: xs) M2
  | .conB e es, σ, M => (evE P cl e σ M).binds fun x M1 => (evEs P cl es σ M1).binds fun xs M2 => .ok (x :: xs) M2
  | .star e es, σ, M => (evE P cl e σ M).binds fun x M1 => match x with
    | .lst ys => (evEs P cl es σ M1).binds fun xs M2 => .ok (ys ++ xs) M2
    | .tup ys => (evEs P cl es σ M1).binds fun xs M2 => .ok (ys ++ xs) M2
    | _ => .bad
def itE (P : Prg) (cl : Call) : It → List SV → Sto → Ress
  | .seq e, σ, M => (evE P cl e σ M).binds fun x M1 => (seqI x).elim .bad fun ds => .ok ds M1
  | .lent i, σ, M => match σ[i]? with
    | some (.brw (.lst ds)) => .ok ds M
    | _ => .bad
  | .rng as, σ, M => (evEs P cl as σ M).binds fun ds M1 => (rngOf ds).elim .bad fun ds => .ok ds M1
  | .enum e, σ, M => (evE P cl e σ M).binds fun x M1 => match x with
    | .lst ds => .ok (enumI 0 ds) M1
    | _ => .bad
  | .zip a b, σ, M => (evE P cl a σ M).binds fun x M1 => (evE P cl b σ M1).binds fun y M2 => match x, y with
    | .lst ds, .lst es => .ok (zipI ds es) M2
    | _, _ => .bad
  | .rev e, σ, M => (evE P cl e σ M).binds fun x M1 => match x with
    | .lst ds => .ok ds.reverse M1
    | _ => .bad
  | .items e, σ, M => (evE P cl e σ M).binds fun x M1 => match x with
    | .dct ks vs => .ok (itmI ks vs) M1
    | _ => .bad
end

/-! ### statements -/
inductive SRes where
  | nx (σ : List SV) (M : Sto)
  | rt (d : D) (M : Sto)
  | bk (σ : List SV) (M : Sto)
  | ct (σ : List SV) (M : Sto)
  | exc (k : Nat) (d : D) (σ : List SV) (M : Sto)
  | bad
def Res.st (r : Res) (σ : List SV) (f : D → Sto → SRes) : SRes := match r with
  | .ok d M => f d M
  | .exc k d M => .exc k d σ M
  | .bad => .bad
def Ress.st (r : Ress) (σ : List SV) (f : List D → Sto → SRes) : SRes := match r with
  | .ok d M => f d M
  | .exc k d M => .exc k d σ M
  | .bad => .bad
def SRes.bind (r : SRes) (f : List SV → Sto → SRes) : SRes := match r with
  | .nx σ M => f σ M
  | r => r
def forL (is : List Nat) (body : List SV → Sto → SRes) : List D → List SV → Sto → SRes
  | [], σ, M => .nx σ M
  | d :: ds, σ, M => (setI σ is d).elim .bad fun σ1 => match body σ1 M with
    | .nx σ2 M2 => forL is body ds σ2 M2
    | .ct σ2 M2 => forL is body ds σ2 M2
    | .bk σ2 M2 => .nx σ2 M2
    | r => r
def whileL (cond : Ev) (body : List SV → Sto → SRes) : Nat → List SV → Sto → SRes
  | 0, _, _ => .bad
  | n + 1, σ, M => (cond σ M).st σ fun x M1 => (tru M1 x).elim .bad fun b => if b then (match body σ M1 with
    | .nx σ2 M2 => whileL cond body n σ2 M2
    | .ct σ2 M2 => whileL cond body n σ2 M2
    | .bk σ2 M2 => .nx σ2 M2
    | r => r) else .nx σ M1
def WFUEL : Nat := 1152921504606846976
def putKD (ks : List DK) (vs : List D) (k : DK) (v : D) : List DK × List D := (if k ∈ ks then ks else ks ++ [k], if k ∈ ks then (ks.zip vs).map fun q => if q.1 = k then v else q.2 else vs ++ [v])
def putOwn (o : MO) (i v : D) : Option MO := match o with
  | .lst ds => match i with
    | .int k => (ixOf ds.length k).map fun j => .lst (ds.set j v)
    | _ => none
  | .dct ks vs => (dkOf i).bind fun k => if ks.length < LIM then some (.dct (putKD ks vs k v).1 (putKD ks vs k v).2) else none
  | _ => none
/-- o[i] = v, in the store -/
def putIx (M : Sto) (o i v : D) : Option Sto := match o with
  | .ref n => (M.m n).bind fun mo => (putOwn mo i v).map fun mo' => M.put n mo'
  | _ => none
def getO (σ : List SV) (i : Nat) : Option MO := match σ[i]? with
  | some (.own o) => some o
  | _ => none
def extI (d : D) : Option (List D) := match d with
  | .lst ds => some ds
  | _ => none
/-- x += y, of whole numbers -/
def aatO : Bin → Int → Int → Option Int
  | .add, i, j => some (i + j)
  | .sub, i, j => some (i - j)
  | _, _, _ => none
/-- no slot holds an exception -/
def noX (σ : List SV) : Bool := σ.all fun v => match v with
  | .exc _ _ => false
  | _ => true
mutual
def evS (P : Prg) (cl : Call) : S → List SV → Sto → SRes
  | .asg i e, σ, M => (evE P cl e σ M).st σ fun d M1 => .nx (σ.set i (.val d)) M1
  | .own i e, σ, M => (evE P cl e σ M).st σ fun d M1 => match d with
    | .lst ds => .nx (σ.set i (.own (.lst ds))) M1
    | _ => .bad
  | .unp is e, σ, M => (evE P cl e σ M).st σ fun d M1 => match d with
    | .tup ds => (setT σ is ds).elim .bad fun σ1 => .nx σ1 M1
    | _ => .bad
  | .par i j a b, σ, M => (evE P cl a σ M).st σ fun x M1 => (evE P cl b σ M1).st σ fun y M2 => .nx ((σ.set i (.val x)).set j (.val y)) M2
  | .sat o f e, σ, M => (evE P cl e σ M).st σ fun v M1 => (evE P cl o σ M1).st σ fun x M2 => match x with
    | .ref n => match M2.m n with
      | some (.ins k ns vs) => if ns.length < 1000 ∧ P.fld k f = true then .nx σ (M2.put n (.ins k (putN f ns) (putL f v ns vs))) else .bad
      | _ => .bad
    | _ => .bad
  | .aat o f op e, σ, M => (evE P cl o σ M).st σ fun x M1 => match x with
    | .ref n => match M1.m n with
      | some (.ins k ns vs) => if P.fld k f = true then ((ns.zip vs).lookup f).elim .bad fun v => (asI v).elim .bad fun i => (evE P cl e σ M1).st σ fun y M2 => (asI y).elim .bad fun j => (aatO op i j).elim .bad fun r => match M2.m n with
        | some (.ins k' ns' vs') => if k' = k ∧ ns'.length < 1000 then .nx σ (M2.put n (.ins k (putN f ns') (putL f (.int r) ns' vs'))) else .bad
        | _ => .bad
        else .bad
      | _ => .bad
    | _ => .bad
  | .sit o i e, σ, M => (evE P cl e σ M).st σ fun v M1 => (evE P cl o σ M1).st σ fun x M2 => (evE P cl i σ M2).st σ fun y M3 => (putIx M3 x y v).elim .bad fun M4 => .nx σ M4
  | .osit j i e, σ, M => (evE P cl e σ M).st σ fun v M1 => (getO σ j).elim .bad fun o => (evE P cl i σ M1).st σ fun y M2 => (putOwn o y v).elim .bad fun o' => .nx (σ.set j (.own o')) M2
  | .aug i op e, σ, M => (getV σ i).elim .bad fun x => (evE P cl e σ M).st σ fun y M1 => (opBin op x y M1).st σ fun r M2 => .nx (σ.set i (.val r)) M2
  | .app o e, σ, M => (evE P cl o σ M).st σ fun x M1 => match x with
    | .ref n => if isL (look M1 x) then (evE P cl e σ M1).st σ fun v M2 => match M2.m n with
      | some (.lst ds) => if ds.length < LIM then .nx σ (M2.put n (.lst (ds ++ [v]))) else .bad
      | _ => .bad
      else .bad
    | _ => .bad
  | .oapp j e, σ, M => match getO σ j with
    | some (.lst ds) => (evE P cl e σ M).st σ fun v M1 => if ds.length < LIM then .nx (σ.set j (.own (.lst (ds ++ [v])))) M1 else .bad
    | _ => .bad
  | .ext o e, σ, M => (evE P cl o σ M).st σ fun x M1 => match x with
    | .ref n => if isL (look M1 x) then (evE P cl e σ M1).st σ fun v M2 => (extI v).elim .bad fun es => match M2.m n with
      | some (.lst ds) => if ds.length + es.length ≤ LIM then .nx σ (M2.put n (.lst (ds ++ es))) else .bad
      | _ => .bad
      else .bad
    | _ => .bad
  | .oext j e, σ, M => match getO σ j with
    | some (.lst ds) => (evE P cl e σ M).st σ fun v M1 => (extI v).elim .bad fun es => if ds.length + es.length ≤ LIM then .nx (σ.set j (.own (.lst (ds ++ es)))) M1 else .bad
    | _ => .bad
  | .ex e, σ, M => (evE P cl e σ M).st σ fun _ M1 => .nx σ M1
  | .ife e s t, σ, M => (evE P cl e σ M).st σ fun x M1 => (tru M1 x).elim .bad fun b => if b then evSs P cl s σ M1 else evSs P cl t σ M1
  | .for_ (.nm i) it b, σ, M => (itE P cl it σ M).st σ fun ds M1 => forL [i] (evSs P cl b) ds σ M1
  | .for_ (.tp is) it b, σ, M => (itE P cl it σ M).st σ fun ds M1 => forL is (evSs P cl b) ds σ M1
  | .while_ e b, σ, M => whileL (evE P cl e) (evSs P cl b) WFUEL σ M
  | .ret e, σ, M => (evE P cl e σ M).st σ fun d M1 => .rt d M1
  | .retN, σ, M => .rt .non M
  | .raise_ k e, σ, M => (evE P cl e σ M).st σ fun d M1 => .exc k d σ M1
  | .tryE b kc i h, σ, M => match evSs P cl b σ M with
    | .exc k d σ1 M1 => (P.exm k kc).elim .bad fun t => if t then (match evSs P cl h (σ1.set i (.exc k d)) M1 with
      | .nx σ2 M2 => if noX (σ2.set i .non) then .nx (σ2.set i .non) M2 else .bad
      | .rt d M2 => .rt d M2
      | _ => .bad) else .exc k d σ1 M1
    | r => r
  | .stuck, _, _ => .bad
  | .pass_, σ, M => .nx σ M
  | .brk, σ, M => .bk σ M
  | .cnt, σ, M => .ct σ M
  | .frz i, σ, M => (getO σ i).elim .bad fun o => (thaw o).elim .bad fun d => .nx (σ.set i (.val d)) M
def evSs (P : Prg) (cl : Call) : Ss → List SV → Sto → SRes
  | .nil, σ, M => .nx σ M
  | .cons s ss, σ, M => (evS P cl s σ M).bind fun σ1 M1 => evSs P cl ss σ1 M1
end
end Z


set_option Elab.async false
set_option linter.all false
set_option autoImplicit false
set_option maxRecDepth 100000
set_option maxHeartbeats 4000000
namespace Z
open PySem L2

/-- the text's names -/
structure Nm where
  fn : Nat → Str
  cn : Nat → Str
  en : Nat → Str
  gn : Nat → Str
  kn : Nat → Str
  an : Nat → Str
  /-- a call with keywords: their names -/
  kw : Nat → List Str
abbrev Scp := List (Str × NameKind)
def visB (sc : Scp) (x : Str) : Bool := sc.lookup x == some .local || sc.lookup x == some .cell || sc.lookup x == some .free
def glB (sc : Scp) (x : Str) : Bool := sc.lookup x == some .globalImplicit && !(x == ("__debug__" : Str)) && !(x == ("__name__" : Str))
def biN : Bi → Str
  | .len => "len" | .int_ => "int" | .str_ => "str" | .list_ => "list" | .tuple_ => "tuple" | .min_ => "min" | .max_ => "max" | .abs_ => "abs" | .sum_ => "sum" | .any_ => "any"
  | .all_ => "all" | .ord_ => "ord" | .dict_ => "dict" | .range_ => "range"
def biNames : List Str := ["len", "int", "str", "list", "tuple", "min", "max", "abs", "sum", "any", "all", "ord", "dict", "range", "isinstance", "enumerate", "zip", "reversed", "bool"]
def bmN : Bm → Str
  | .split => "split" | .join => "join" | .index => "index" | .count => "count" | .get => "get" | .get2 => "get" | .isdigit => "isdigit" | .replace => "replace"
def plainB : PySem.Expr → Bool
  | .Starred _ _ => false
  | .GeneratorExp _ _ _ _ => false
  | _ => true
/-- the object of an attribute is no call of super -/
def baseB : PySem.Expr → Bool
  | .Call (.Name id _) [] [] _ => !(id == ("super" : Str))
  | _ => true
def noSlc : PySem.Expr → Bool
  | .Slice _ _ _ _ => false
  | _ => true
def tyB (nm : Nm) (sc : Scp) : Ty → PySem.Expr → Bool
  | .bool_, .Name x _ => glB sc x && x == ("bool" : Str)
  | .int_, .Name x _ => glB sc x && x == ("int" : Str)
  | .str_, .Name x _ => glB sc x && x == ("str" : Str)
  | .list_, .Name x _ => glB sc x && x == ("list" : Str)
  | .tuple_, .Name x _ => glB sc x && x == ("tuple" : Str)
  | .cls k, .Name x _ => glB sc x && x == nm.cn k
  | .exc k, .Name x _ => glB sc x && x == nm.en k
  | _, _ => false
def opB (op : Bin) (o : Operator) : Bool := decide (toOp op = o)
def cmB (op : Cm) (o : CmpOp) : Bool := decide (toCm op = o)
/-- the place of an own name in N -/
def ixB (N : List Str) (i : Nat) (x : Str) : Bool := N[i]? == some x
def litB : D → Const → Bool
  | .non, .none => true
  | .bl b, .bool b' => b == b'
  | .int i, .int j => decide (i = j)
  | .str x, .str y => decide (sS x = y) && x.all (· < 1114112)
  | _, _ => false
def tgB (N : List Str) (sc : Scp) : List Nat → PySem.Expr → Bool
  | [i], .Name x _ => ixB N i x && sc.lookup x == some .local
  | _, _ => false
def tgsB (N : List Str) (sc : Scp) : List Nat → List PySem.Expr → Bool
  | [], [] => true
  | i :: is, e :: es => tgB N sc [i] e && tgsB N sc is es
  | _, _ => false
/-- a walk's target: a local name, or a tuple of such -/
def tgtB (N : List Str) (sc : Scp) : List Nat → PySem.Expr → Bool
  | [i], e => tgB N sc [i] e
  | is, .Tuple es _ _ => 2 ≤ is.length && tgsB N sc is es
  | _, _ => false
/-- the names of a block's scope as it runs within sc -/
def relN (names sc : Scp) : Scp := names.map fun (n, k) => if (k == .free && sc.lookup n == some .cell) then (n, .cell) else (n, k)
end Z


set_option Elab.async false
set_option linter.all false
set_option autoImplicit false
set_option maxRecDepth 100000
set_option maxHeartbeats 4000000
namespace Z
open PySem L2

/-- what a body's context must have -/
structure Ok (q : Bool) (X : Cx) (c : Cz) (z : Ez) (W : WX) : Prop where
  hK : c.K = X.K
  /-- q: not within an except suite -/
  calm : q = true → X.calm = true
  tk : L2N.Takes X W
  nd : X.N.Nodup
  hu : X.A.units + 65 < cLine
  /-- no name of a built-in is the module's own -/
  bn : ∀ x ∈ biNames, X.mg x = none
section
variable {q : Bool} {X : Cx} {c : Cz} {z : Ez} {W : WX}
/-! ### names, constants -/
theorem visB_ok {x : Str} (h : visB X.env.scope.names x = true) : Vis X.env.scope x := by
  unfold visB at h
  simp only [Bool.or_eq_true, beq_iff_eq] at h
  rcases h with (h | h) | h
  · exact .inl h
  · exact .inr (.inl h)
  · exact .inr (.inr h)
theorem glB_ok {x : Str} (h : glB X.env.scope.names x = true) : Gl X x ∧ (x == ("__debug__" : Str)) = false ∧ x ≠ "__name__" := by
  unfold glB at h
  simp only [Bool.and_eq_true, beq_iff_eq, Bool.not_eq_true'] at h
  refine ⟨h.1.1, h.1.2, fun e => ?_⟩
  rw [e] at h
  simp at h
theorem ixB_ok {i : Nat} {x : Str} (h : ixB X.N i x = true) : X.N[i]? = some x := by simpa [ixB] using h
theorem elimE {α : Type} {E : XK} {w : Wd} {M : Sto} {H : Hp} {Q : VK} {o : Option α} {f : α → Res} (h : Sat c z E w M H (o.elim .bad f) Q) : ∃ d, o = some d ∧ Sat c z E w M H (f d) Q := match_sat h
theorem e_slot {i : Nat} {x : Str} {pos : Pos} (hi : X.N[i]? = some x) (hv : Vis X.env.scope x) (h1 : (x == ("__debug__" : Str)) = false) (h2 : (x == ("__classdict__" : Str)) = false) (P : Prg) (cl : Call) :
    PE X (.Name x pos) (tE c z W (evE P cl (.slot i))) := by
  refine PE.imp (pe_var hi hv h1 h2) fun τ H Q h => ?_
  obtain ⟨w, σ, M, s, h⟩ := h
  rw [evE] at h
  obtain ⟨d, hd, h⟩ := match_sat h
  have hd' : σ[i]? = some (.val d) := by
    unfold getV at hd
    split at hd
    · rename_i d' e; cases hd; exact e
    · cases hd
  obtain ⟨v, h3, h4⟩ := s.s.val i d hd'
  exact ⟨v, h3, Sat.here h s.m h4⟩
theorem match_satB {α : Type} {E : XK} {w : Wd} {M : Sto} {H : Hp} {Q : VK} {o : Option α} {f : α → Res} (h : SatB c z E w M H (o.elim .bad f) Q) : ∃ d, o = some d ∧ SatB c z E w M H (f d) Q := by
  cases o with
  | none => exact h.elim
  | some d => exact ⟨d, rfl, h⟩
theorem SatB.here {E : XK} {w : Wd} {M : Sto} {H : Hp} {Q : VK} {d : D} {v : V} (h : SatB c z E w M H (.ok d M) Q) (m : MR c w M H) (r : RB c w M H d v) : Q v H := h w H v .refl m r
theorem SatB.step {E : XK} {w w1 : Wd} {M M1 : Sto} {H H1 : Hp} {Q : VK} {r : Res} (h : SatB c z E w M H r Q) (q : Keep w M H w1 M1 H1) : SatB c z E w1 M1 H1 r Q := by
  cases r with
  | ok d M' => exact fun w' H' v h1 h2 h3 => h w' H' v (q.trans h1) h2 h3
  | exc k d M' => exact ExcAt.step h q
  | bad => exact h
theorem SatB.sat {E : XK} {w : Wd} {M : Sto} {H : Hp} {Q : VK} {r : Res} (h : SatB c z E w M H r Q) : Sat c z E w M H r Q := by
  cases r with
  | ok d M' => exact fun w' H' v h1 h2 h3 => h w' H' v h1 h2 (.inl h3)
  | exc k d M' => exact h
  | bad => exact h
theorem e_bor {i : Nat} {x : Str} {pos : Pos} (hi : X.N[i]? = some x) (hv : Vis X.env.scope x) (h1 : (x == ("__debug__" : Str)) = false) (h2 : (x == ("__classdict__" : Str)) = false) (P : Prg) (cl : Call) :
    PE X (.Name x pos) (tB c z W (evE P cl (.bor i))) := by
  refine PE.imp (pe_var hi hv h1 h2) fun τ H Q h => ?_
  obtain ⟨w, σ, M, s, h⟩ := h
  rw [evE] at h
  obtain ⟨d, hd, h⟩ := match_satB h
  unfold getB at hd
  split at hd
  · rename_i d' e
    cases hd
    obtain ⟨v, h3, h4⟩ := s.s.val i d e
    exact ⟨v, h3, SatB.here h s.m (.inl h4)⟩
  · rename_i d' e
    cases hd
    obtain ⟨v, h3, h4⟩ := s.s.brw i d e
    exact ⟨v, h3, SatB.here h s.m h4⟩
  · rename_i o e
    obtain ⟨p, ob, h3, h4, h5, h6, h7⟩ := s.s.own i o e
    exact ⟨_, h3, SatB.here h s.m (.inr ⟨p, ob, o, rfl, h4, h5, h6, h7, hd⟩)⟩
  · cases hd
theorem e_lit {d : D} {k : Const} {j : Nat} {pos : Pos} (h : litB d k = true) (P : Prg) (cl : Call) : PE X (.Constant k j pos) (tE c z W (evE P cl (.lit d))) := by
  have fin : ∀ {τ : St} {H : Hp} {Q : VK} {v : V}, (∀ w : Wd, R c w d v) → tE c z W (evE P cl (.lit d)) τ H Q → Q v H := fun {τ H Q v} r h => by
    obtain ⟨w, σ, M, s, h⟩ := h
    rw [evE] at h
    exact Sat.here h s.m (r w)
  cases d <;> cases k <;> first | (simp [litB] at h; done) | skip
  · exact PE.imp pe_non fun τ H Q h => fin (fun _ => rfl) h
  · rename_i b b'
    simp only [litB, beq_iff_eq] at h
    subst h
    exact PE.imp pe_bl fun τ H Q h => fin (fun _ => rfl) h
  · rename_i b b'
    simp only [litB, decide_eq_true_eq] at h
    subst h
    exact PE.imp pe_int fun τ H Q h => fin (fun _ => rfl) h
  · rename_i b b'
    simp only [litB, Bool.and_eq_true, decide_eq_true_eq, List.all_eq_true] at h
    obtain ⟨h, h'⟩ := h
    subst h
    exact PE.imp pe_str fun τ H Q q => fin (fun _ => ⟨rfl, fun n hn => by simpa using h' n hn⟩) q
/-- a constant of the top -/
def GlOk (X : Cx) (c : Cz) (x : Str) (d : D) : Prop := ∃ (u : Value) (v : V), X.mg x = some u ∧ RelV v u ∧ ∀ w : Wd, R c w d v
theorem e_glb {g : Nat} {x : Str} {pos : Pos} (P : Prg) (cl : Call) (h : glB X.env.scope.names x = true) (ok : GlOk X c x (P.gl g)) : PE X (.Name x pos) (tE c z W (evE P cl (.glb g))) := by
  obtain ⟨u, v, hm, r, rr⟩ := ok
  obtain ⟨g1, g2, _⟩ := glB_ok h
  refine PE.imp (pe_glob g1 hm r g2) fun τ H Q h => ?_
  obtain ⟨w, σ, M, s, h⟩ := h
  rw [evE] at h
  exact Sat.here h s.m (rr w)

/-! ### operators -/
variable {P : Prg} {cl : Call}
theorem e_bin {op : Bin} {a b : E} {a' b' : PySem.Expr} {pos : Pos} (ok : Ok q X c z W) (ha : PE X a' (tB c z W (evE P cl a))) (hb : PE X b' (tB c z W (evE P cl b))) :
    PE X (.BinOp a' (toOp op) b' pos) (tE c z W (evE P cl (.bin op a b))) := by
  refine ⟨fun pins s τ H Q I h => ?_⟩
  obtain ⟨w, σ, M, st, h⟩ := h
  rw [evE] at h
  refine (pe_op (op_bin (c := c) (z := z) (E := fun cl d H' => W cl d τ H') op ok.hK) ha hb).run pins s τ H Q I ?_
  refine tB_bind st h fun w1 M1 H1 x v k1 s1 r1 h1 => ?_
  refine tB_bind s1 h1 fun w2 M2 H2 y u k2 s2 r2 h2 => ?_
  exact ⟨w2, M2, _, _, s2.m, RV.look s2.m (r1.keep k2), RV.look s2.m r2, h2⟩
theorem e_cmp {o : Cm} {a b : E} {a' b' : PySem.Expr} {pos : Pos} (ok : Ok q X c z W) (hm : behindInMarks (toCm o) b' = false) (ha : PE X a' (tB c z W (evE P cl a))) (hb : PE X b' (tB c z W (evE P cl b))) :
    PE X (.Compare a' [toCm o] [b'] pos) (tE c z W (evE P cl (.cmp o a b))) := by
  refine ⟨fun pins s τ H Q I h => ?_⟩
  obtain ⟨w, σ, M, st, h⟩ := h
  rw [evE] at h
  refine (pe_cmpR (op_cm (c := c) (z := z) (E := fun cl d H' => W cl d τ H') o ok.hK ok.hu) ha hb hm).run pins s τ H Q I ?_
  refine tB_bind st h fun w1 M1 H1 x v k1 s1 r1 h1 => ?_
  refine tB_bind s1 h1 fun w2 M2 H2 y u k2 s2 r2 h2 => ?_
  exact ⟨w2, M2, _, _, s2.m, RV.look s2.m (r1.keep k2), RV.look s2.m r2, h2⟩
theorem e_neg {a : E} {a' : PySem.Expr} {pos : Pos} (ha : PE X a' (tB c z W (evE P cl a))) : PE X (.UnaryOp .USub a' pos) (tE c z W (evE P cl (.neg a))) := by
  refine PE.imp (pe_un un_neg ha) fun τ H Q h => ?_
  obtain ⟨w, σ, M, st, h⟩ := h
  rw [evE] at h
  refine tB_bind st h fun w1 M1 H1 x v k1 s1 r1 h1 => ?_
  cases x with
  | int i => cases r1.int; exact ⟨i, rfl, Sat.here h1 s1.m rfl⟩
  | _ => exact h1.elim
theorem e_not {a : E} {a' : PySem.Expr} {pos : Pos} (ok : Ok q X c z W) (ha : PE X a' (tB c z W (evE P cl a))) : PE X (.UnaryOp .Not a' pos) (tE c z W (evE P cl (.not_ a))) := by
  refine PE.imp (pe_notT ha) fun τ H Q h => ?_
  obtain ⟨w, σ, M, st, h⟩ := h
  rw [evE] at h
  refine tB_bind st h fun w1 M1 H1 x v k1 s1 r1 h1 => ?_
  obtain ⟨b, hb, h1⟩ := match_sat h1
  exact ⟨b, ok.hK ▸ tru_v s1.m (RV.look s1.m r1) hb, Sat.here h1 s1.m rfl⟩
end
end Z


set_option Elab.async false
set_option linter.all false
set_option autoImplicit false
set_option maxRecDepth 100000
set_option maxHeartbeats 4000000
namespace Z
open PySem L2

/-- a value's truth -/
def evT (ev : Ev) : Ev := fun σ M => (ev σ M).bind fun x M1 => (tru M1 x).elim .bad fun b => .ok (.bl b) M1
section
variable {q : Bool} {X : Cx} {c : Cz} {z : Ez} {W : WX} {P : Prg} {cl : Call}
def tTr (c : Cz) (z : Ez) (W : WX) (ev : Ev) : TT := fun τ H Q => tE c z W (evT ev) τ H fun v H1 => ∃ b, v = .bl b ∧ Q b H1
/-- any expression, as a test -/
theorem t_val {ev : Ev} {a : PySem.Expr} (ok : Ok q X c z W) (ha : PE X a (tB c z W ev)) (he : ∀ whole, isTrue a X.env whole = (do let v ← whole; standAt a.pos; holding [v] (truthy v))) : PT X a (tTr c z W ev) := by
  refine PT.imp (pt_truth ha he) fun τ H Q h => ?_
  obtain ⟨w, σ, M, st, h⟩ := h
  refine tB_bind st h fun w1 M1 H1 x v k1 s1 r1 h1 => ?_
  obtain ⟨b, hb, h1⟩ := match_sat h1
  obtain ⟨b', e, q⟩ := Sat.here h1 s1.m (v := .bl b) rfl
  cases e
  exact ⟨b, ok.hK ▸ tru_v s1.m (RV.look s1.m r1) hb, q⟩
theorem bind_ok {r : Res} {f g : D → Sto → Res} (h : ∀ d M, f d M = g d M) : r.bind f = r.bind g := by cases r <;> simp [Res.bind, h]
theorem evT_not {a : E} {σ : List SV} {M : Sto} : evT (evE P cl (.not_ a)) σ M = (evT (evE P cl a) σ M).bind fun x M1 => match x with
    | .bl b => .ok (.bl (!b)) M1
    | _ => .bad := by
  unfold evT
  rw [evE]
  cases e : evE P cl a σ M with
  | ok d M1 =>
    simp only [Res.bind]
    cases tru M1 d <;> simp [tru, look]
  | exc k d M1 => rfl
  | bad => rfl
theorem t_not {a : E} {a' : PySem.Expr} {pos : Pos} (ha : PT X a' (tTr c z W (evE P cl a))) : PT X (.UnaryOp .Not a' pos) (tTr c z W (evE P cl (.not_ a))) := by
  refine PT.imp (pt_not ha) fun τ H Q h => ?_
  obtain ⟨w, σ, M, st, h⟩ := h
  rw [evT_not] at h
  refine tE_bind st h fun w1 M1 H1 x v k1 s1 r1 h1 => ?_
  cases x with
  | bl b =>
    cases r1
    obtain ⟨b', e, q⟩ := Sat.here h1 s1.m (v := .bl (!b)) rfl
    cases e
    exact ⟨b, rfl, q⟩
  | _ => exact h1.elim
theorem opCmp_bl (o : Cm) (x y : D) (M : Sto) : (∃ b, opCmp o x y M = .ok (.bl b) M) ∨ opCmp o x y M = .bad := by
  cases o <;> unfold opCmp
  · simp only; split <;> simp
  · simp only; split <;> simp
  · simp only; split <;> simp
  · simp only; split <;> simp
  · simp only; split <;> simp
  · simp only; split <;> simp
  · simp only; split <;> (try split) <;> simp
  · simp only; split <;> (try split) <;> simp
  · simp only; cases opIn x y M <;> simp
  · simp only; cases opIn x y M <;> simp
theorem bind_assoc {r : Res} {f g : D → Sto → Res} : (r.bind f).bind g = r.bind fun d M => (f d M).bind g := by cases r <;> rfl
theorem evT_cmp {o : Cm} {a b : E} {σ : List SV} {M : Sto} : evT (evE P cl (.cmp o a b)) σ M = evE P cl (.cmp o a b) σ M := by
  unfold evT
  rw [evE, bind_assoc]
  refine bind_ok fun x M1 => ?_
  rw [bind_assoc]
  refine bind_ok fun y M2 => ?_
  rcases opCmp_bl o (look M2 x) (look M2 y) M2 with ⟨b, e⟩ | e <;> rw [e] <;> rfl
theorem t_cmp {o : Cm} {a b : E} {a' b' : PySem.Expr} {pos : Pos} (ok : Ok q X c z W) (hm : behindInMarks (toCm o) b' = false) (ha : PE X a' (tB c z W (evE P cl a))) (hb : PE X b' (tB c z W (evE P cl b))) :
    PT X (.Compare a' [toCm o] [b'] pos) (tTr c z W (evE P cl (.cmp o a b))) := by
  refine ⟨fun pins s τ H Q I h => ?_⟩
  obtain ⟨w, σ, M, st, h⟩ := h
  rw [evT_cmp, evE] at h
  refine (pt_cmpR (op_cm (c := c) (z := z) (E := fun cl d H' => W cl d τ H') o ok.hK ok.hu) ha hb hm).run pins s τ H Q I ?_
  refine tB_bind st h fun w1 M1 H1 x v k1 s1 r1 h1 => ?_
  refine tB_bind s1 h1 fun w2 M2 H2 y u k2 s2 r2 h2 => ?_
  exact ⟨w2, M2, _, _, s2.m, RV.look s2.m (r1.keep k2), RV.look s2.m r2, h2⟩
/-! ### and, or -/
theorem e_and {a b : E} {a' b' : PySem.Expr} {r : List PySem.Expr} {pos : Pos} (ok : Ok q X c z W) (ha : PE X a' (tE c z W (evE P cl a))) (hb : PE X (.BoolOp .And (b' :: r) pos) (tE c z W (evE P cl b))) :
    PE X (.BoolOp .And (a' :: b' :: r) pos) (tE c z W (evE P cl (.and_ a b))) := by
  refine PE.imp (pe_andT ha hb) fun τ H Q h => ?_
  obtain ⟨w, σ, M, st, h⟩ := h
  rw [evE] at h
  refine tE_bind st h fun w1 M1 H1 x v k1 s1 r1 h1 => ?_
  obtain ⟨t, ht, h1⟩ := match_sat h1
  refine ⟨t, ok.hK ▸ tru_v s1.m (RV.look s1.m (.inl r1)) ht, ?_⟩
  cases t with
  | true => rw [if_pos rfl] at h1 ⊢; exact ⟨w1, σ, M1, s1, h1⟩
  | false => rw [if_neg Bool.false_ne_true] at h1 ⊢; exact Sat.here h1 s1.m r1
theorem e_or {a b : E} {a' b' : PySem.Expr} {r : List PySem.Expr} {pos : Pos} (ok : Ok q X c z W) (ha : PE X a' (tE c z W (evE P cl a))) (hb : PE X (.BoolOp .Or (b' :: r) pos) (tE c z W (evE P cl b))) :
    PE X (.BoolOp .Or (a' :: b' :: r) pos) (tE c z W (evE P cl (.or_ a b))) := by
  refine PE.imp (pe_orT ha hb) fun τ H Q h => ?_
  obtain ⟨w, σ, M, st, h⟩ := h
  rw [evE] at h
  refine tE_bind st h fun w1 M1 H1 x v k1 s1 r1 h1 => ?_
  obtain ⟨t, ht, h1⟩ := match_sat h1
  refine ⟨t, ok.hK ▸ tru_v s1.m (RV.look s1.m (.inl r1)) ht, ?_⟩
  cases t with
  | true => rw [if_pos rfl] at h1 ⊢; exact Sat.here h1 s1.m r1
  | false => rw [if_neg Bool.false_ne_true] at h1 ⊢; exact ⟨w1, σ, M1, s1, h1⟩
theorem evT_and {a b : E} {σ : List SV} {M : Sto} : evT (evE P cl (.and_ a b)) σ M = (evT (evE P cl a) σ M).bind fun x M1 => match x with
    | .bl true => evT (evE P cl b) σ M1
    | .bl false => .ok (.bl false) M1
    | _ => .bad := by
  unfold evT
  rw [evE]
  cases e : evE P cl a σ M with
  | ok d M1 =>
    simp only [Res.bind]
    cases ht : tru M1 d with
    | none => rfl
    | some t =>
      cases t with
      | true => simp
      | false => simp [ht]
  | exc k d M1 => rfl
  | bad => rfl
theorem evT_or {a b : E} {σ : List SV} {M : Sto} : evT (evE P cl (.or_ a b)) σ M = (evT (evE P cl a) σ M).bind fun x M1 => match x with
    | .bl true => .ok (.bl true) M1
    | .bl false => evT (evE P cl b) σ M1
    | _ => .bad := by
  unfold evT
  rw [evE]
  cases e : evE P cl a σ M with
  | ok d M1 =>
    simp only [Res.bind]
    cases ht : tru M1 d with
    | none => rfl
    | some t =>
      cases t with
      | true => simp [ht]
      | false => simp
  | exc k d M1 => rfl
  | bad => rfl
theorem PT.pw {op : BoolOp} {vs : List PySem.Expr} {pos : Pos} {t : TT} (h : PT X (.BoolOp op vs pos) t) : PW X (.BoolOp op vs pos) t := ⟨fun whole pins s σ H Q I q => h.run pins s σ H Q I q⟩
theorem t_and {a b : E} {a' b' : PySem.Expr} {r : List PySem.Expr} {pos : Pos} (ha : PT X a' (tTr c z W (evE P cl a))) (hb : PW X (.BoolOp .And (b' :: r) pos) (tTr c z W (evE P cl b))) :
    PT X (.BoolOp .And (a' :: b' :: r) pos) (tTr c z W (evE P cl (.and_ a b))) := by
  refine PT.imp (pw_and ha hb).pt fun τ H Q h => ?_
  obtain ⟨w, σ, M, st, h⟩ := h
  rw [evT_and] at h
  refine tE_bind st h fun w1 M1 H1 x v k1 s1 r1 h1 => ?_
  cases x with
  | bl t =>
    cases r1
    refine ⟨t, rfl, ?_⟩
    cases t with
    | true => rw [if_pos rfl]; exact ⟨w1, σ, M1, s1, h1⟩
    | false =>
      rw [if_neg Bool.false_ne_true]
      obtain ⟨b', e, q⟩ := Sat.here h1 s1.m (v := .bl false) rfl
      cases e; exact q
  | _ => exact h1.elim
theorem t_or {a b : E} {a' b' : PySem.Expr} {r : List PySem.Expr} {pos : Pos} (ha : PT X a' (tTr c z W (evE P cl a))) (hb : PW X (.BoolOp .Or (b' :: r) pos) (tTr c z W (evE P cl b))) :
    PT X (.BoolOp .Or (a' :: b' :: r) pos) (tTr c z W (evE P cl (.or_ a b))) := by
  refine PT.imp (pw_or ha hb).pt fun τ H Q h => ?_
  obtain ⟨w, σ, M, st, h⟩ := h
  rw [evT_or] at h
  refine tE_bind st h fun w1 M1 H1 x v k1 s1 r1 h1 => ?_
  cases x with
  | bl t =>
    cases r1
    refine ⟨t, rfl, ?_⟩
    cases t with
    | false => rw [if_neg Bool.false_ne_true]; exact ⟨w1, σ, M1, s1, h1⟩
    | true =>
      rw [if_pos rfl]
      obtain ⟨b', e, q⟩ := Sat.here h1 s1.m (v := .bl true) rfl
      cases e; exact q
  | _ => exact h1.elim
theorem e_ite {e a b : E} {e' a' b' : PySem.Expr} {pos : Pos} (he : PT X e' (tTr c z W (evE P cl e))) (ha : PE X a' (tE c z W (evE P cl a))) (hb : PE X b' (tE c z W (evE P cl b))) :
    PE X (.IfExp e' a' b' pos) (tE c z W (evE P cl (.ite e a b))) := by
  refine PE.imp (pe_ifExp he ha hb) fun τ H Q h => ?_
  obtain ⟨w, σ, M, st, h⟩ := h
  rw [evE] at h
  have q : evT (evE P cl e) σ M = (evE P cl e σ M).bind fun x M1 => (tru M1 x).elim .bad fun b => .ok (.bl b) M1 := rfl
  have h2 : Sat c z (fun cl d H' => W cl d τ H') w M H ((evT (evE P cl e) σ M).bind fun x M1 => match x with
      | .bl true => evE P cl a σ M1
      | .bl false => evE P cl b σ M1
      | _ => .bad) Q := by
    rw [q, bind_assoc]
    have : ((evE P cl e σ M).bind fun d M1 => ((tru M1 d).elim Res.bad fun b => Res.ok (D.bl b) M1).bind fun x M1 => match x with
      | .bl true => evE P cl a σ M1
      | .bl false => evE P cl b σ M1
      | _ => .bad) = (evE P cl e σ M).bind fun x M1 => (tru M1 x).elim .bad fun t => if t then evE P cl a σ M1 else evE P cl b σ M1 := bind_ok fun d M1 => by
        cases tru M1 d with
        | none => rfl
        | some t => cases t <;> rfl
    rw [this]; exact h
  refine tE_bind st h2 fun w1 M1 H1 x v k1 s1 r1 h1 => ?_
  cases x with
  | bl t =>
    cases r1
    refine ⟨t, rfl, ?_⟩
    cases t with
    | true => rw [if_pos rfl]; exact ⟨w1, σ, M1, s1, h1⟩
    | false => rw [if_neg Bool.false_ne_true]; exact ⟨w1, σ, M1, s1, h1⟩
  | _ => exact h1.elim
theorem e_cmp2 {o p : Cm} {a b e : E} {a' b' e' : PySem.Expr} {pos : Pos} (ok : Ok q X c z W) (hm : behindInMarks (toCm p) e' = false) (ha : PE X a' (tB c z W (evE P cl a))) (hb : PE X b' (tB c z W (evE P cl b))) (he : PE X e' (tB c z W (evE P cl e))) :
    PE X (.Compare a' [toCm o, toCm p] [b', e'] pos) (tE c z W (evE P cl (.cmp2 o p a b e))) := by
  refine ⟨fun pins s τ H Q I h => ?_⟩
  obtain ⟨w, σ, M, st, h⟩ := h
  rw [evE] at h
  refine (pe_chain (op_cm (c := c) (z := z) (E := fun cl d H' => W cl d τ H') o ok.hK ok.hu) (op_cm (c := c) (z := z) (E := fun cl d H' => W cl d τ H') p ok.hK ok.hu) ha hb he hm).run pins s τ H Q I ?_
  refine tB_bind st h fun w1 M1 H1 x v k1 s1 r1 h1 => ?_
  refine tB_bind s1 h1 fun w2 M2 H2 y u k2 s2 r2 h2 => ?_
  refine ⟨w2, M2, _, _, s2.m, RV.look s2.m (r1.keep k2), RV.look s2.m r2, ?_⟩
  rcases opCmp_bl o (look M2 x) (look M2 y) M2 with ⟨t, et⟩ | et
  · rw [et] at h2 ⊢
    refine fun w3 H3 v3 k3 m3 r3 => ?_
    cases r3
    refine ⟨t, rfl, ?_⟩
    have s3 := s2.keep k3 m3
    cases t with
    | true =>
      rw [if_pos rfl]
      have h2 : Sat c z (fun cl d H' => W cl d τ H') w2 M2 H2 ((evE P cl e σ M2).bind fun v M4 => opCmp p (look M4 y) (look M4 v) M4) Q := h2
      refine tB_bind s3 (Sat.step h2 k3) fun w4 M4 H4 v' u' k4 s4 r4 h4 => ?_
      exact ⟨w4, M4, _, _, s4.m, RV.look s4.m ((r2.keep k3).keep k4), RV.look s4.m r4, h4⟩
    | false =>
      rw [if_neg Bool.false_ne_true]
      have h2 : Sat c z (fun cl d H' => W cl d τ H') w2 M2 H2 (.ok (.bl false) M2) Q := h2
      exact (Sat.step h2 k3).here s3.m rfl
  · rw [et] at h2; exact h2.elim
theorem evT_cmp2 {o p : Cm} {a b e : E} {σ : List SV} {M : Sto} : evT (evE P cl (.cmp2 o p a b e)) σ M = evE P cl (.cmp2 o p a b e) σ M := by
  unfold evT
  rw [evE, bind_assoc]
  refine bind_ok fun x M1 => ?_
  rw [bind_assoc]
  refine bind_ok fun y M2 => ?_
  rcases opCmp_bl o (look M2 x) (look M2 y) M2 with ⟨b, et⟩ | et <;> rw [et]
  · cases b with
    | true =>
      show ((evE P cl e σ M2).bind _).bind _ = (evE P cl e σ M2).bind _
      rw [bind_assoc]
      refine bind_ok fun v M4 => ?_
      rcases opCmp_bl p (look M4 y) (look M4 v) M4 with ⟨b, et⟩ | et <;> rw [et] <;> rfl
    | false => rfl
  · rfl
theorem t_cmp2 {o p : Cm} {a b e : E} {a' b' e' : PySem.Expr} {pos : Pos} (ok : Ok q X c z W) (hm : behindInMarks (toCm p) e' = false) (ha : PE X a' (tB c z W (evE P cl a))) (hb : PE X b' (tB c z W (evE P cl b))) (he : PE X e' (tB c z W (evE P cl e))) :
    PT X (.Compare a' [toCm o, toCm p] [b', e'] pos) (tTr c z W (evE P cl (.cmp2 o p a b e))) := by
  refine ⟨fun pins s τ H Q I h => ?_⟩
  obtain ⟨w, σ, M, st, h⟩ := h
  rw [evT_cmp2, evE] at h
  refine (pt_chain (op_cm (c := c) (z := z) (E := fun cl d H' => W cl d τ H') o ok.hK ok.hu) (op_cm (c := c) (z := z) (E := fun cl d H' => W cl d τ H') p ok.hK ok.hu) ha hb he hm).run pins s τ H Q I ?_
  refine tB_bind st h fun w1 M1 H1 x v k1 s1 r1 h1 => ?_
  refine tB_bind s1 h1 fun w2 M2 H2 y u k2 s2 r2 h2 => ?_
  refine ⟨w2, M2, _, _, s2.m, RV.look s2.m (r1.keep k2), RV.look s2.m r2, ?_⟩
  rcases opCmp_bl o (look M2 x) (look M2 y) M2 with ⟨t, et⟩ | et
  · rw [et] at h2 ⊢
    refine fun w3 H3 v3 k3 m3 r3 => ?_
    cases r3
    refine ⟨t, rfl, ?_⟩
    have s3 := s2.keep k3 m3
    cases t with
    | true =>
      rw [if_pos rfl]
      have h2 : Sat c z (fun cl d H' => W cl d τ H') w2 M2 H2 ((evE P cl e σ M2).bind fun v M4 => opCmp p (look M4 y) (look M4 v) M4) _ := h2
      refine tB_bind s3 (Sat.step h2 k3) fun w4 M4 H4 v' u' k4 s4 r4 h4 => ?_
      exact ⟨w4, M4, _, _, s4.m, RV.look s4.m ((r2.keep k3).keep k4), RV.look s4.m r4, h4⟩
    | false =>
      rw [if_neg Bool.false_ne_true]
      have h2 : Sat c z (fun cl d H' => W cl d τ H') w2 M2 H2 (.ok (.bl false) M2) _ := h2
      exact (Sat.step h2 k3).here s3.m rfl
  · rw [et] at h2; exact h2.elim
end
end Z


set_option Elab.async false
set_option linter.all false
set_option autoImplicit false
set_option maxRecDepth 100000
set_option maxHeartbeats 4000000
namespace Z
open PySem L2

/-! ### argument lists: some may be lent -/
def Rf (c : Cz) (w : Wd) (M : Sto) (H : Hp) : List Bool → List D → List V → Prop
  | _, [], vs => vs = []
  | fl, d :: ds, vs => ∃ x xs, vs = x :: xs ∧ (R c w d x ∨ (fl.headD false = true ∧ RB c w M H d x)) ∧ Rf c w M H fl.tail ds xs
theorem Rf.keep {c : Cz} {w w' : Wd} {M M' : Sto} {H H' : Hp} (k : Keep w M H w' M' H') : ∀ {fl : List Bool} {ds : List D} {vs : List V}, Rf c w M H fl ds vs → Rf c w' M' H' fl ds vs
  | _, [], _, r => r
  | fl, _ :: _, _, ⟨x, xs, e, r, q⟩ => ⟨x, xs, e, r.elim (fun r => .inl (R.le k.le _ _ r)) (fun r => .inr ⟨r.1, r.2.keep k⟩), Rf.keep k q⟩
theorem Rf.all {c : Cz} {w : Wd} {M : Sto} {H : Hp} : ∀ {fl : List Bool} {ds : List D} {vs : List V}, Rf c w M H fl ds vs → RBs c w M H ds vs
  | _, [], _, r => r
  | fl, _ :: _, _, ⟨x, xs, e, r, q⟩ => ⟨x, xs, e, r.elim .inl (·.2), Rf.all q⟩
theorem Rf.rs {c : Cz} {w : Wd} {M : Sto} {H : Hp} : ∀ {fl : List Bool} {ds : List D} {vs : List V}, fl.all (!·) = true → Rf c w M H fl ds vs → Rs c w ds vs
  | _, [], _, _, r => r
  | [], _ :: _, _, h, ⟨x, xs, e, r, q⟩ => ⟨x, xs, e, r.elim id (fun z => absurd z.1 (by simp)), Rf.rs (fl := []) rfl q⟩
  | b :: fl, _ :: _, _, h, ⟨x, xs, e, r, q⟩ => by
    simp only [List.all_cons, Bool.and_eq_true, Bool.not_eq_true'] at h
    exact ⟨x, xs, e, r.elim id (fun z => absurd z.1 (by simp [h.1])), Rf.rs h.2 q⟩
theorem Rs.rf {c : Cz} {w : Wd} {M : Sto} {H : Hp} : ∀ {fl : List Bool} {ds : List D} {vs : List V}, Rs c w ds vs → Rf c w M H fl ds vs
  | _, [], _, r => r
  | _, _ :: _, _, ⟨x, xs, e, r, q⟩ => ⟨x, xs, e, .inl r, Rs.rf q⟩
theorem Rf.length {c : Cz} {w : Wd} {M : Sto} {H : Hp} : ∀ {fl : List Bool} {ds : List D} {vs : List V}, Rf c w M H fl ds vs → vs.length = ds.length
  | _, [], _, r => by cases r; rfl
  | _, _ :: _, _, ⟨_, _, e, _, q⟩ => by subst e; simp [Rf.length q]
theorem Rf.app {c : Cz} {w : Wd} {M : Sto} {H : Hp} : ∀ {fl : List Bool} {ds es : List D} {vs us : List V}, Rf c w M H fl ds vs → Rs c w es us → Rf c w M H fl (ds ++ es) (vs ++ us)
  | _, [], _, _, _, r, q => by cases r; exact Rs.rf q
  | _, _ :: _, _, _, _, ⟨x, xs, e, r, z⟩, q => by subst e; exact ⟨x, _, rfl, r, Rf.app z q⟩
/-- fewer may be lent -/
def leF : List Bool → List Bool → Bool
  | [], _ => true
  | a :: as, bs => (!a || bs.headD false) && leF as bs.tail
theorem Rf.mono {c : Cz} {w : Wd} {M : Sto} {H : Hp} : ∀ {fl gl : List Bool} {ds : List D} {vs : List V}, leF fl gl = true → Rf c w M H fl ds vs → Rf c w M H gl ds vs
  | _, _, [], _, _, r => r
  | [], gl, _ :: ds, _, _, ⟨x, xs, e, r, q⟩ => ⟨x, xs, e, r.elim .inl (fun z => absurd z.1 (by simp)), Rf.mono (fl := []) rfl q⟩
  | a :: fl, gl, _ :: ds, _, h, ⟨x, xs, e, r, q⟩ => by
    simp only [leF, Bool.and_eq_true, Bool.or_eq_true, Bool.not_eq_true'] at h
    refine ⟨x, xs, e, r.elim .inl (fun z => .inr ⟨?_, z.2⟩), Rf.mono h.2 q⟩
    rcases h.1 with h1 | h1
    · rw [h1] at z; exact absurd z.1 (by simp)
    · exact h1
def SatF (c : Cz) (z : Ez) (E : XK) (fl : List Bool) (w : Wd) (M : Sto) (H : Hp) (r : Ress) (Q : List V → Hp → Prop) : Prop := match r with
  | .ok ds M' => ∀ w' H' vs, Keep w M H w' M' H' → MR c w' M' H' → Rf c w' M' H' fl ds vs → Q vs H'
  | .exc k d M' => ExcAt c z E w M H k d M'
  | .bad => False
def tF (c : Cz) (z : Ez) (W : WX) (fl : List Bool) (ev : Evs) : TA := fun τ H Q => ∃ w σ M, SR c w σ M τ H ∧ SatF c z (fun cl d H' => W cl d τ H') fl w M H (ev σ M) Q
theorem SatF.step {c : Cz} {z : Ez} {E : XK} {fl : List Bool} {w w1 : Wd} {M M1 : Sto} {H H1 : Hp} {r : Ress} {Q : List V → Hp → Prop} (h : SatF c z E fl w M H r Q) (q : Keep w M H w1 M1 H1) : SatF c z E fl w1 M1 H1 r Q := by
  cases r with
  | ok d M' => exact fun w' H' v h1 h2 h3 => h w' H' v (q.trans h1) h2 h3
  | exc k d M' => exact ExcAt.step h q
  | bad => exact h
section
variable {c : Cz} {z : Ez} {W : WX} {w : Wd} {σ : List SV} {M : Sto} {τ : St} {H : Hp}
/-- one argument list is evaluated, the rest goes on -/
theorem tF_bind {fl : List Bool} {ev : Evs} {f : List D → Sto → Res} {Q : VK} (s : SR c w σ M τ H) (h : Sat c z (fun cl d H' => W cl d τ H') w M H ((ev σ M).bind f) Q) {K : List V → Hp → Prop}
    (k : ∀ w1 M1 H1 ds vs, Keep w M H w1 M1 H1 → SR c w1 σ M1 τ H1 → Rf c w1 M1 H1 fl ds vs → Sat c z (fun cl d H' => W cl d τ H') w1 M1 H1 (f ds M1) Q → K vs H1) : tF c z W fl ev τ H K := by
  refine ⟨w, σ, M, s, ?_⟩
  cases e : ev σ M with
  | ok d M1 =>
    rw [e] at h
    exact fun w1 H1 v k1 m1 r1 => k w1 M1 H1 d v k1 (s.keep k1 m1) r1 (Sat.step h k1)
  | exc a d M1 => rw [e] at h; exact h
  | bad => rw [e] at h; exact h
theorem tF_binds {fl gl : List Bool} {ev : Evs} {f : List D → Sto → Ress} {Q : List V → Hp → Prop} (s : SR c w σ M τ H) (h : SatF c z (fun cl d H' => W cl d τ H') gl w M H ((ev σ M).binds f) Q) {K : List V → Hp → Prop}
    (k : ∀ w1 M1 H1 ds vs, Keep w M H w1 M1 H1 → SR c w1 σ M1 τ H1 → Rf c w1 M1 H1 fl ds vs → SatF c z (fun cl d H' => W cl d τ H') gl w1 M1 H1 (f ds M1) Q → K vs H1) : tF c z W fl ev τ H K := by
  refine ⟨w, σ, M, s, ?_⟩
  cases e : ev σ M with
  | ok d M1 =>
    rw [e] at h
    exact fun w1 H1 v k1 m1 r1 => k w1 M1 H1 d v k1 (s.keep k1 m1) r1 (SatF.step h k1)
  | exc a d M1 => rw [e] at h; exact h
  | bad => rw [e] at h; exact h
theorem tE_binds {gl : List Bool} {ev : Ev} {f : D → Sto → Ress} {Q : List V → Hp → Prop} (s : SR c w σ M τ H) (h : SatF c z (fun cl d H' => W cl d τ H') gl w M H ((ev σ M).binds f) Q) {K : VK}
    (k : ∀ w1 M1 H1 d v, Keep w M H w1 M1 H1 → SR c w1 σ M1 τ H1 → R c w1 d v → SatF c z (fun cl d H' => W cl d τ H') gl w1 M1 H1 (f d M1) Q → K v H1) : tE c z W ev τ H K := by
  refine ⟨w, σ, M, s, ?_⟩
  cases e : ev σ M with
  | ok d M1 =>
    rw [e] at h
    exact fun w1 H1 v k1 m1 r1 => k w1 M1 H1 d v k1 (s.keep k1 m1) r1 (SatF.step h k1)
  | exc a d M1 => rw [e] at h; exact h
  | bad => rw [e] at h; exact h
theorem tB_binds {gl : List Bool} {ev : Ev} {f : D → Sto → Ress} {Q : List V → Hp → Prop} (s : SR c w σ M τ H) (h : SatF c z (fun cl d H' => W cl d τ H') gl w M H ((ev σ M).binds f) Q) {K : VK}
    (k : ∀ w1 M1 H1 d v, Keep w M H w1 M1 H1 → SR c w1 σ M1 τ H1 → RB c w1 M1 H1 d v → SatF c z (fun cl d H' => W cl d τ H') gl w1 M1 H1 (f d M1) Q → K v H1) : tB c z W ev τ H K := by
  refine ⟨w, σ, M, s, ?_⟩
  cases e : ev σ M with
  | ok d M1 =>
    rw [e] at h
    exact fun w1 H1 v k1 m1 r1 => k w1 M1 H1 d v k1 (s.keep k1 m1) r1 (SatF.step h k1)
  | exc a d M1 => rw [e] at h; exact h
  | bad => rw [e] at h; exact h
end
def flg : Es → List Bool
  | .nil => []
  | .cons _ es => false :: flg es
  | .conB _ es => true :: flg es
  | .star _ es => []
def noB : Es → Bool
  | .nil => true
  | .cons _ es => noB es
  | .conB _ es => false
  | .star _ es => noB es
theorem flg_noB : ∀ {es : Es}, noB es = true → (flg es).all (!·) = true
  | .nil, _ => rfl
  | .cons _ es, h => by simp only [flg, List.all_cons, Bool.and_eq_true]; exact ⟨rfl, flg_noB (es := es) h⟩
  | .conB _ _, h => by cases h
  | .star _ _, _ => rfl
theorem SatF.rs {c : Cz} {z : Ez} {E : XK} {fl : List Bool} {w : Wd} {M : Sto} {H : Hp} {ds : List D} {vs : List V} {Q : List V → Hp → Prop} (h : SatF c z E fl w M H (.ok ds M) Q) (m : MR c w M H) (r : Rf c w M H fl ds vs) : Q vs H := h w H vs .refl m r
section
variable {q : Bool} {X : Cx} {c : Cz} {z : Ez} {W : WX} {P : Prg} {cl : Call}
theorem a_nil : PA X [] (tF c z W (flg .nil) (evEs P cl .nil)) := PA.imp pa_nil fun τ H Q ⟨w, σ, M, s, h⟩ => by
  rw [evEs] at h
  exact SatF.rs h s.m rfl
theorem plain_star {e : PySem.Expr} {es : List PySem.Expr} {env : Env} (h : plainB e = true) : starEach (e :: es) env = (false, eval e env) :: starEach es env := by
  cases e <;> first | rfl | (cases h)
theorem a_cons {e : E} {es : Es} {e' : PySem.Expr} {es' : List PySem.Expr} (hp : plainB e' = true) (ha : PE X e' (tE c z W (evE P cl e))) (hr : PA X es' (tF c z W (flg es) (evEs P cl es))) :
    PA X (e' :: es') (tF c z W (flg (.cons e es)) (evEs P cl (.cons e es))) := PA.imp (pa_cons ha hr (plain_star hp)) fun τ H Q ⟨w, σ, M, s, h⟩ => by
  rw [evEs] at h
  refine tE_binds s h fun w1 M1 H1 d v k1 s1 r1 h1 => ?_
  refine tF_binds s1 h1 fun w2 M2 H2 ds vs k2 s2 r2 h2 => ?_
  exact SatF.rs h2 s2.m ⟨v, vs, rfl, .inl (R.le k2.le _ _ r1), r2⟩
theorem a_conB {e : E} {es : Es} {e' : PySem.Expr} {es' : List PySem.Expr} (hp : plainB e' = true) (ha : PE X e' (tB c z W (evE P cl e))) (hr : PA X es' (tF c z W (flg es) (evEs P cl es))) :
    PA X (e' :: es') (tF c z W (flg (.conB e es)) (evEs P cl (.conB e es))) := PA.imp (pa_cons ha hr (plain_star hp)) fun τ H Q ⟨w, σ, M, s, h⟩ => by
  rw [evEs] at h
  refine tB_binds s h fun w1 M1 H1 d v k1 s1 r1 h1 => ?_
  refine tF_binds s1 h1 fun w2 M2 H2 ds vs k2 s2 r2 h2 => ?_
  exact SatF.rs h2 s2.m ⟨v, vs, rfl, .inr ⟨rfl, r1.keep k2⟩, r2⟩
theorem a_star {e : E} {es : Es} {e' : PySem.Expr} {es' : List PySem.Expr} {p : Pos} (hK : c.K = X.K) (hn : noB es = true) (ha : PE X e' (tB c z W (evE P cl e))) (hr : PA X es' (tF c z W (flg es) (evEs P cl es))) :
    PA X (.Starred e' p :: es') (tF c z W (flg (.star e es)) (evEs P cl (.star e es))) := PA.imp (StX.pa_star ha hr rfl) fun τ H Q ⟨w, σ, M, s, h⟩ => by
  rw [evEs] at h
  refine tB_binds s h fun w1 M1 H1 d v k1 s1 r1 h1 => ?_
  have go : ∀ {ys : List D} {xs : List V} {w1 : Wd} {M1 : Sto} {H1 : Hp}, SR c w1 σ M1 τ H1 → Rs c w1 ys xs → SatF c z (fun cl d H' => W cl d τ H') [] w1 M1 H1 ((evEs P cl es σ M1).binds fun xs M2 => .ok (ys ++ xs) M2) Q →
      tF c z W (flg es) (evEs P cl es) τ H1 fun us H2 => Q (xs ++ us) H2 := fun {ys xs w1 M1 H1} s1 r h => by
    refine tF_binds s1 h fun w2 M2 H2 ds vs k2 s2 r2 h2 => ?_
    exact SatF.rs h2 s2.m (Rs.rf ((Rs.le k2.le _ _ r).app (Rf.rs (flg_noB hn) r2)))
  cases d with
  | lst ys =>
    obtain ⟨a, xs, rfl, q, r⟩ := (RV.look s1.m r1 : RV c w1 H1 (.lst ys) v)
    exact ⟨a, xs, rfl, .inr (.inl (.inl q)), go s1 r h1⟩
  | tup ys =>
    obtain ⟨a, xs, rfl, q, r⟩ := RV.tup s1.m (RV.look s1.m r1 : RV c w1 H1 (.tup ys) v)
    exact ⟨a, xs, rfl, .inl (hK ▸ q), go s1 r h1⟩
  | _ => exact h1.elim

/-! ### new lists -/
def SatN (c : Cz) (z : Ez) (E : XK) (w : Wd) (M : Sto) (H : Hp) (r : Res) (Q : VK) : Prop := match r with
  | .ok (.lst ds) M' => ∀ w' H' xs p, Keep w M H w' M' H' → MR c w' M' H' → Rs c w' ds xs → H' p = none → Q (.ref p) (upd H' p (.lst xs))
  | .ok _ _ => False
  | .exc k d M' => ExcAt c z E w M H k d M'
  | .bad => False
def tN (c : Cz) (z : Ez) (W : WX) (ev : Ev) : TE := fun τ H Q => ∃ w σ M, SR c w σ M τ H ∧ SatN c z (fun cl d H' => W cl d τ H') w M H (ev σ M) Q
theorem SatN.step {E : XK} {w w1 : Wd} {M M1 : Sto} {H H1 : Hp} {r : Res} {Q : VK} (h : SatN c z E w M H r Q) (q : Keep w M H w1 M1 H1) : SatN c z E w1 M1 H1 r Q := by
  cases r with
  | ok d M' => cases d with
    | lst ds => exact fun w' H' xs p h1 h2 h3 => h w' H' xs p (q.trans h1) h2 h3
    | _ => exact h
  | exc k d M' => exact ExcAt.step h q
  | bad => exact h
theorem SatN.here {E : XK} {w : Wd} {M : Sto} {H : Hp} {Q : VK} {ds : List D} {xs : List V} {p : Addr} (h : SatN c z E w M H (.ok (.lst ds) M) Q) (m : MR c w M H) (r : Rs c w ds xs) (hp : H p = none) : Q (.ref p) (upd H p (.lst xs)) := h w H xs p .refl m r hp
theorem SatN.of {E : XK} {w : Wd} {M : Sto} {H : Hp} {r : Res} {Q : VK} (h : Sat c z E w M H r Q) (nl : ∀ d M', r = .ok d M' → ∃ ds, d = .lst ds) : SatN c z E w M H r Q := by
  cases r with
  | ok d M' =>
    obtain ⟨ds, rfl⟩ := nl d M' rfl
    exact fun w' H' xs p k m r hp => Sat.newL (Sat.step (r := .ok (.lst ds) M') h k) m r hp
  | exc k d M' => exact h
  | bad => exact h
theorem tF_bindN {fl : List Bool} {ev : Evs} {f : List D → Sto → Res} {Q : VK} {w : Wd} {σ : List SV} {M : Sto} {τ : St} {H : Hp} (s : SR c w σ M τ H) (h : SatN c z (fun cl d H' => W cl d τ H') w M H ((ev σ M).bind f) Q) {K : List V → Hp → Prop}
    (k : ∀ w1 M1 H1 ds vs, Keep w M H w1 M1 H1 → SR c w1 σ M1 τ H1 → Rf c w1 M1 H1 fl ds vs → SatN c z (fun cl d H' => W cl d τ H') w1 M1 H1 (f ds M1) Q → K vs H1) : tF c z W fl ev τ H K := by
  refine ⟨w, σ, M, s, ?_⟩
  cases e : ev σ M with
  | ok d M1 =>
    rw [e] at h
    exact fun w1 H1 v k1 m1 r1 => k w1 M1 H1 d v k1 (s.keep k1 m1) r1 (SatN.step h k1)
  | exc a d M1 => rw [e] at h; exact h
  | bad => rw [e] at h; exact h
theorem tB_bindN {ev : Ev} {f : D → Sto → Res} {Q : VK} {w : Wd} {σ : List SV} {M : Sto} {τ : St} {H : Hp} (s : SR c w σ M τ H) (h : SatN c z (fun cl d H' => W cl d τ H') w M H ((ev σ M).bind f) Q) {K : VK}
    (k : ∀ w1 M1 H1 d v, Keep w M H w1 M1 H1 → SR c w1 σ M1 τ H1 → RB c w1 M1 H1 d v → SatN c z (fun cl d H' => W cl d τ H') w1 M1 H1 (f d M1) Q → K v H1) : tB c z W ev τ H K := by
  refine ⟨w, σ, M, s, ?_⟩
  cases e : ev σ M with
  | ok d M1 =>
    rw [e] at h
    exact fun w1 H1 v k1 m1 r1 => k w1 M1 H1 d v k1 (s.keep k1 m1) r1 (SatN.step h k1)
  | exc a d M1 => rw [e] at h; exact h
  | bad => rw [e] at h; exact h
theorem n_lst {as : Es} {as' : List PySem.Expr} {pos : Pos} (hn : noB as = true) (ha : PA X as' (tF c z W (flg as) (evEs P cl as))) : PE X (.List as' pos) (tN c z W (evE P cl (.lst as))) := PE.imp (pe_lst ha) fun τ H Q ⟨w, σ, M, s, h⟩ => by
  rw [evE] at h
  refine tF_bindN s h fun w1 M1 H1 ds vs k1 s1 r1 h1 => ?_
  have r2 := Rf.rs (flg_noB hn) r1
  by_cases hl : ds.length ≤ LIM
  · rw [if_pos hl] at h1
    exact ⟨by rw [r2.length, LIM_eq]; exact hl, fun p hp => SatN.here h1 s1.m r2 hp⟩
  · rw [if_neg hl] at h1; exact h1.elim
theorem tN_of_tE {τ : St} {H : Hp} {Q : VK} {ev : Ev} (nl : ∀ σ M d M', ev σ M = .ok d M' → ∃ ds, d = .lst ds) (h : tE c z W ev τ H Q) : tN c z W ev τ H Q := by
  obtain ⟨w, σ, M, s, h⟩ := h
  exact ⟨w, σ, M, s, SatN.of h fun d M' e => nl σ M d M' e⟩
theorem lst_lst {as : Es} (σ : List SV) (M : Sto) (d : D) (M' : Sto) (h : evE P cl (.lst as) σ M = .ok d M') : ∃ ds, d = .lst ds := by
  rw [evE] at h
  cases e : evEs P cl as σ M with
  | ok ds M1 =>
    rw [e] at h
    simp only [Ress.bind] at h
    split at h
    · cases h; exact ⟨_, rfl⟩
    · cases h
  | exc k d M1 => rw [e] at h; cases h
  | bad => rw [e] at h; cases h
theorem e_lst {as : Es} {as' : List PySem.Expr} {pos : Pos} (hn : noB as = true) (ha : PA X as' (tF c z W (flg as) (evEs P cl as))) : PE X (.List as' pos) (tE c z W (evE P cl (.lst as))) :=
  PE.imp (n_lst hn ha) fun τ H Q h => tN_of_tE lst_lst h
theorem e_tup {as : Es} {as' : List PySem.Expr} {x1 : _} {pos : Pos} (hn : noB as = true) (ha : PA X as' (tF c z W (flg as) (evEs P cl as))) : PE X (.Tuple as' x1 pos) (tE c z W (evE P cl (.tup as))) := PE.imp (pe_tup ha) fun τ H Q ⟨w, σ, M, s, h⟩ => by
  rw [evE] at h
  refine tF_bind s h fun w1 M1 H1 ds vs k1 s1 r1 h1 => ?_
  have r2 := Rf.rs (flg_noB hn) r1
  by_cases hl : ds.length ≤ LIM
  · rw [if_pos hl] at h1
    exact ⟨by rw [r2.length, LIM_eq]; exact hl, fun p hp => Sat.newT h1 s1.m r2 hp⟩
  · rw [if_neg hl] at h1; exact h1.elim
end
end Z


set_option Elab.async false
set_option linter.all false
set_option autoImplicit false
set_option maxRecDepth 100000
set_option maxHeartbeats 4000000
namespace Z
open PySem L2

section
variable {q : Bool} {X : Cx} {c : Cz} {z : Ez} {W : WX} {P : Prg} {cl : Call}
theorem noSlc_ok {b : PySem.Expr} (h : noSlc b = true) : PlainIx b := by
  intro o i
  cases b <;> first | rfl | (cases h)
theorem e_idx {a b : E} {a' b' : PySem.Expr} {pos : Pos} (ok : Ok q X c z W) (hs : noSlc b' = true) (ha : PE X a' (tB c z W (evE P cl a))) (hb : PE X b' (tB c z W (evE P cl b))) :
    PE X (.Subscript a' b' pos) (tE c z W (evE P cl (.idx a b))) := by
  refine ⟨fun pins s τ H Q I h => ?_⟩
  obtain ⟨w, σ, M, st, h⟩ := h
  rw [evE] at h
  refine (pe_ix (ix_z (c := c) (z := z) (E := fun cl d H' => W cl d τ H') ok.hK ok.hu) ha hb (noSlc_ok hs)).run pins s τ H Q I ?_
  refine tB_bind st h fun w1 M1 H1 x v k1 s1 r1 h1 => ?_
  refine tB_bind s1 h1 fun w2 M2 H2 y u k2 s2 r2 h2 => ?_
  exact ⟨w2, M2, _, _, s2.m, RV.look s2.m (r1.keep k2), RV.look s2.m r2, h2⟩
end
section
variable {X : Cx} {c : Cz} {z : Ez} {E : XK}
def rSlN (c : Cz) (z : Ez) (E : XK) : V → Option Int → Option Int → Hp → VK → Prop := fun x lo hi H Q => ∃ w M d, MR c w M H ∧ RV c w H d x ∧ SatN c z E w M H (opCut d lo hi M) Q
theorem sl_n (hK : c.K = X.K) : SlR X (rSlN c z E) := by
  intro pins s σ H x v vl vu lo hi sl Q I rx hs pl pu h
  obtain ⟨w, M, d, m, rd, sat⟩ := h
  cases d with
  | lst ds =>
    obtain ⟨p, xs, rfl, hp, r⟩ := rd
    exact sl_list pins s σ H _ v vl vu lo hi sl Q I rx hs pl pu ⟨p, xs, rfl, .inl (.inl hp), fun n hn => SatN.here sat m (cut_rel lo hi r) hn⟩
  | frl ds =>
    obtain ⟨p, xs, rfl, hp, r⟩ := RV.frl m rd
    exact sl_list pins s σ H _ v vl vu lo hi sl Q I rx hs pl pu ⟨p, xs, rfl, hK ▸ hp, fun n hn => SatN.here sat m (cut_rel lo hi r) hn⟩
  | str x =>
    have sat : SatN c z E w M H (if x.length ≤ LIM then .ok (.str (cutZ x lo hi)) M else .bad) Q := sat
    by_cases hl : x.length ≤ LIM
    · rw [if_pos hl] at sat; exact sat.elim
    · rw [if_neg hl] at sat; exact sat.elim
  | _ => exact sat.elim
def rBinN (c : Cz) (z : Ez) (E : XK) (op : Bin) : R2 := fun x y H Q => ∃ w M d e, MR c w M H ∧ RV c w H d x ∧ RV c w H e y ∧ SatN c z E w M H (opBin op d e M) Q
theorem op_binN (op : Bin) : OpR X (binaryOp (toOp op)) (rBinN c z E op) := by
  intro pins s σ H x y v u Q I rx ry h
  obtain ⟨w, M, d, e, m, rd, re, sat⟩ := h
  cases op with
  | add =>
    cases d with
    | lst a => cases e with
      | lst b =>
        obtain ⟨p, xs, rfl, hp, r1⟩ := rd
        obtain ⟨q, ys, rfl, hq, r2⟩ := re
        have sat : SatN c z E w M H (if a.length + b.length ≤ LIM then .ok (.lst (a ++ b)) M else .bad) Q := sat
        by_cases hl : a.length + b.length ≤ LIM
        · rw [if_pos hl] at sat
          exact op_cat pins s σ H _ _ v u Q I rx ry ⟨p, q, xs, ys, rfl, rfl, hp, hq, by rw [r1.length, r2.length, LIM_eq]; exact hl, fun n hn => SatN.here sat m (r1.app r2) hn⟩
        · rw [if_neg hl] at sat; exact sat.elim
      | _ => exact sat.elim
    | int i => cases e <;> exact sat.elim
    | str a => cases e with
      | str b =>
        have sat : SatN c z E w M H (if a.length + b.length ≤ LIM then .ok (.str (a ++ b)) M else .bad) Q := sat
        split at sat <;> exact sat.elim
      | _ => exact sat.elim
    | tup a => cases e with
      | tup b =>
        have sat : SatN c z E w M H (if a.length + b.length ≤ LIM then .ok (.tup (a ++ b)) M else .bad) Q := sat
        split at sat <;> exact sat.elim
      | _ => exact sat.elim
    | _ => exact sat.elim
  | mul =>
    cases d with
    | lst a => cases e with
      | int k =>
        cases re
        obtain ⟨p, xs, rfl, hp, r1⟩ := rd
        have sat : SatN c z E w M H (if -9223372036854775808 ≤ k ∧ k < 9223372036854775808 ∧ a.length * k.toNat ≤ LIM then .ok (.lst (List.replicate k.toNat a).flatten) M else .bad) Q := sat
        by_cases hl : -9223372036854775808 ≤ k ∧ k < 9223372036854775808 ∧ a.length * k.toNat ≤ LIM
        · rw [if_pos hl] at sat
          exact op_rep pins s σ H _ _ v u Q I rx ry ⟨p, k, xs, rfl, rfl, hp, hl.1, hl.2.1, by rw [r1.length, LIM_eq]; exact hl.2.2, fun n hn => SatN.here sat m (r1.rep k.toNat) hn⟩
        · rw [if_neg hl] at sat; exact sat.elim
      | _ => exact sat.elim
    | int i => cases e with
      | int j =>
        have sat : SatN c z E w M H (if (-B64 < i ∧ i < B64) ∨ (-B64 < j ∧ j < B64) then .ok (.int (i * j)) M else .bad) Q := sat
        split at sat <;> exact sat.elim
      | _ => exact sat.elim
    | _ => exact sat.elim
  | sub => cases d <;> cases e <;> exact sat.elim
  | fdiv =>
    cases d with
    | int i => cases e with
      | int j =>
        have sat : SatN c z E w M H (if 0 < j ∧ j < 1073741824 then .ok (.int (i / j)) M else .bad) Q := sat
        split at sat <;> exact sat.elim
      | _ => exact sat.elim
    | _ => exact sat.elim
  | mod =>
    cases d with
    | int i => cases e with
      | int j =>
        have sat : SatN c z E w M H (if 0 < j then .ok (.int (i % j)) M else .bad) Q := sat
        split at sat <;> exact sat.elim
      | _ => exact sat.elim
    | _ => exact sat.elim
  | pow =>
    cases d with
    | int i => cases e with
      | int j =>
        have sat : SatN c z E w M H (if 0 ≤ j ∧ j ≤ 1000000 ∧ i.natAbs < 18446744073709551616 then .ok (.int (i ^ j.toNat)) M else .bad) Q := sat
        split at sat <;> exact sat.elim
      | _ => exact sat.elim
    | _ => exact sat.elim
def rLstN (c : Cz) (z : Ez) (E : XK) : List V → Hp → VK → Prop := fun xs H Q => ∃ w M ds, MR c w M H ∧ RBs c w M H ds xs ∧ SatN c z E w M H (opBi .list_ ds M) Q
theorem cl_listN (hK : c.K = X.K) : CallR X (.type "list") (rLstN c z E) := by
  intro pins s σ H xs us Q I r h
  obtain ⟨w, M, ds, m, rb, sat⟩ := h
  match ds, rb, sat with
  | [], _, sat => exact sat.elim
  | _ :: _ :: _, _, sat => exact sat.elim
  | [d], rb, sat =>
    obtain ⟨x, rfl, rb1⟩ := rb.one
    have rv := RV.look m rb1
    have sat : SatN c z E w M H (match look M d with
      | .lst ds => .ok (.lst ds) M
      | .frl ds => .ok (.lst ds) M
      | .tup ds => .ok (.lst ds) M
      | _ => .bad) Q := sat
    revert rv sat
    generalize look M d = e
    intro rv sat
    cases e with
    | lst ds =>
      obtain ⟨p, ys, rfl, hp, r'⟩ := rv
      exact call_list_of pins s σ H _ us Q I r ⟨p, ys, rfl, .inl (.inl (.inl hp)), fun n hn => SatN.here sat m r' hn⟩
    | frl ds =>
      obtain ⟨p, ys, rfl, hp, r'⟩ := RV.frl m rv
      exact call_list_of pins s σ H _ us Q I r ⟨p, ys, rfl, .inl (hK ▸ hp), fun n hn => SatN.here sat m r' hn⟩
    | tup ds =>
      obtain ⟨p, ys, rfl, hp, r'⟩ := RV.tup m rv
      exact call_list_of pins s σ H _ us Q I r ⟨p, ys, rfl, .inr (hK ▸ hp), fun n hn => SatN.here sat m r' hn⟩
    | _ => exact sat.elim
end
section
variable {q : Bool} {X : Cx} {c : Cz} {z : Ez} {W : WX} {P : Prg} {cl : Call}
theorem n_bin {op : Bin} {a b : E} {a' b' : PySem.Expr} {pos : Pos} (ha : PE X a' (tB c z W (evE P cl a))) (hb : PE X b' (tB c z W (evE P cl b))) :
    PE X (.BinOp a' (toOp op) b' pos) (tN c z W (evE P cl (.bin op a b))) := by
  refine ⟨fun pins s τ H Q I h => ?_⟩
  obtain ⟨w, σ, M, st, h⟩ := h
  rw [evE] at h
  refine (pe_op (op_binN (c := c) (z := z) (E := fun cl d H' => W cl d τ H') op) ha hb).run pins s τ H Q I ?_
  refine tB_bindN st h fun w1 M1 H1 x v k1 s1 r1 h1 => ?_
  refine tB_bindN s1 h1 fun w2 M2 H2 y u k2 s2 r2 h2 => ?_
  exact ⟨w2, M2, _, _, s2.m, RV.look s2.m (r1.keep k2), RV.look s2.m r2, h2⟩
/-! ### slices -/
theorem asI_sat {E : XK} {w : Wd} {M : Sto} {H : Hp} {Q : VK} {y : D} {v : V} {f : Int → Res} (r : R c w y v) (h : Sat c z E w M H ((asI y).elim .bad f) Q) : ∃ i, v = .int i ∧ Sat c z E w M H (f i) Q := by
  cases y <;> first | exact h.elim | (cases r; exact ⟨_, rfl, h⟩)
theorem asI_satN {E : XK} {w : Wd} {M : Sto} {H : Hp} {Q : VK} {y : D} {v : V} {f : Int → Res} (r : R c w y v) (h : SatN c z E w M H ((asI y).elim .bad f) Q) : ∃ i, v = .int i ∧ SatN c z E w M H (f i) Q := by
  cases y <;> first | exact h.elim | (cases r; exact ⟨_, rfl, h⟩)
theorem tE_bindN {ev : Ev} {f : D → Sto → Res} {Q : VK} {w : Wd} {σ : List SV} {M : Sto} {τ : St} {H : Hp} (s : SR c w σ M τ H) (h : SatN c z (fun cl d H' => W cl d τ H') w M H ((ev σ M).bind f) Q) {K : VK}
    (k : ∀ w1 M1 H1 d v, Keep w M H w1 M1 H1 → SR c w1 σ M1 τ H1 → R c w1 d v → SatN c z (fun cl d H' => W cl d τ H') w1 M1 H1 (f d M1) Q → K v H1) : tE c z W ev τ H K := by
  refine ⟨w, σ, M, s, ?_⟩
  cases e : ev σ M with
  | ok d M1 =>
    rw [e] at h
    exact fun w1 H1 v k1 m1 r1 => k w1 M1 H1 d v k1 (s.keep k1 m1) r1 (SatN.step h k1)
  | exc a d M1 => rw [e] at h; exact h
  | bad => rw [e] at h; exact h
variable {a l h : E} {a' l' h' : PySem.Expr} {pos p2 : Pos}
theorem e_slA (ok : Ok q X c z W) (ha : PE X a' (tB c z W (evE P cl a))) : PE X (.Subscript a' (.Slice none none none p2) pos) (tE c z W (evE P cl (.slA a))) := by
  refine ⟨fun pins s τ H Q I h => ?_⟩
  obtain ⟨w, σ, M, st, h⟩ := h
  rw [evE] at h
  refine (pe_slice (sl_z (c := c) (z := z) (E := fun cl d H' => W cl d τ H') ok.hK) ha po_none po_none).run pins s τ H Q I ?_
  refine tB_bind st h fun w1 M1 H1 x v k1 s1 r1 h1 => ?_
  exact ⟨w1, M1, _, s1.m, RV.look s1.m r1, h1⟩
theorem n_slA (ok : Ok q X c z W) (ha : PE X a' (tB c z W (evE P cl a))) : PE X (.Subscript a' (.Slice none none none p2) pos) (tN c z W (evE P cl (.slA a))) := by
  refine ⟨fun pins s τ H Q I h => ?_⟩
  obtain ⟨w, σ, M, st, h⟩ := h
  rw [evE] at h
  refine (pe_slice (sl_n (c := c) (z := z) (E := fun cl d H' => W cl d τ H') ok.hK) ha po_none po_none).run pins s τ H Q I ?_
  refine tB_bindN st h fun w1 M1 H1 x v k1 s1 r1 h1 => ?_
  exact ⟨w1, M1, _, s1.m, RV.look s1.m r1, h1⟩
theorem e_slL (ok : Ok q X c z W) (ha : PE X a' (tB c z W (evE P cl a))) (hl : PE X l' (tE c z W (evE P cl l))) : PE X (.Subscript a' (.Slice (some l') none none p2) pos) (tE c z W (evE P cl (.slL a l))) := by
  refine ⟨fun pins s τ H Q I h => ?_⟩
  obtain ⟨w, σ, M, st, h⟩ := h
  rw [evE] at h
  refine (pe_slice (sl_z (c := c) (z := z) (E := fun cl d H' => W cl d τ H') ok.hK) ha (po_some hl) po_none).run pins s τ H Q I ?_
  refine tB_bind st h fun w1 M1 H1 x v k1 s1 r1 h1 => ?_
  refine tE_bind s1 h1 fun w2 M2 H2 y u k2 s2 r2 h2 => ?_
  obtain ⟨i, rfl, h3⟩ := asI_sat r2 h2
  exact ⟨i, rfl, w2, M2, _, s2.m, RV.look s2.m (r1.keep k2), h3⟩
theorem n_slL (ok : Ok q X c z W) (ha : PE X a' (tB c z W (evE P cl a))) (hl : PE X l' (tE c z W (evE P cl l))) : PE X (.Subscript a' (.Slice (some l') none none p2) pos) (tN c z W (evE P cl (.slL a l))) := by
  refine ⟨fun pins s τ H Q I h => ?_⟩
  obtain ⟨w, σ, M, st, h⟩ := h
  rw [evE] at h
  refine (pe_slice (sl_n (c := c) (z := z) (E := fun cl d H' => W cl d τ H') ok.hK) ha (po_some hl) po_none).run pins s τ H Q I ?_
  refine tB_bindN st h fun w1 M1 H1 x v k1 s1 r1 h1 => ?_
  refine tE_bindN s1 h1 fun w2 M2 H2 y u k2 s2 r2 h2 => ?_
  obtain ⟨i, rfl, h3⟩ := asI_satN r2 h2
  exact ⟨i, rfl, w2, M2, _, s2.m, RV.look s2.m (r1.keep k2), h3⟩
theorem e_slH (ok : Ok q X c z W) (ha : PE X a' (tB c z W (evE P cl a))) (hl : PE X l' (tE c z W (evE P cl l))) : PE X (.Subscript a' (.Slice none (some l') none p2) pos) (tE c z W (evE P cl (.slH a l))) := by
  refine ⟨fun pins s τ H Q I h => ?_⟩
  obtain ⟨w, σ, M, st, h⟩ := h
  rw [evE] at h
  refine (pe_slice (sl_z (c := c) (z := z) (E := fun cl d H' => W cl d τ H') ok.hK) ha po_none (po_some hl)).run pins s τ H Q I ?_
  refine tB_bind st h fun w1 M1 H1 x v k1 s1 r1 h1 => ?_
  refine tE_bind s1 h1 fun w2 M2 H2 y u k2 s2 r2 h2 => ?_
  obtain ⟨i, rfl, h3⟩ := asI_sat r2 h2
  exact ⟨i, rfl, w2, M2, _, s2.m, RV.look s2.m (r1.keep k2), h3⟩
theorem n_slH (ok : Ok q X c z W) (ha : PE X a' (tB c z W (evE P cl a))) (hl : PE X l' (tE c z W (evE P cl l))) : PE X (.Subscript a' (.Slice none (some l') none p2) pos) (tN c z W (evE P cl (.slH a l))) := by
  refine ⟨fun pins s τ H Q I h => ?_⟩
  obtain ⟨w, σ, M, st, h⟩ := h
  rw [evE] at h
  refine (pe_slice (sl_n (c := c) (z := z) (E := fun cl d H' => W cl d τ H') ok.hK) ha po_none (po_some hl)).run pins s τ H Q I ?_
  refine tB_bindN st h fun w1 M1 H1 x v k1 s1 r1 h1 => ?_
  refine tE_bindN s1 h1 fun w2 M2 H2 y u k2 s2 r2 h2 => ?_
  obtain ⟨i, rfl, h3⟩ := asI_satN r2 h2
  exact ⟨i, rfl, w2, M2, _, s2.m, RV.look s2.m (r1.keep k2), h3⟩
theorem e_slc (ok : Ok q X c z W) (ha : PE X a' (tB c z W (evE P cl a))) (hl : PE X l' (tE c z W (evE P cl l))) (hh : PE X h' (tE c z W (evE P cl h))) : PE X (.Subscript a' (.Slice (some l') (some h') none p2) pos) (tE c z W (evE P cl (.slc a l h))) := by
  refine ⟨fun pins s τ H Q I h => ?_⟩
  obtain ⟨w, σ, M, st, h⟩ := h
  rw [evE] at h
  refine (pe_slice (sl_z (c := c) (z := z) (E := fun cl d H' => W cl d τ H') ok.hK) ha (po_some hl) (po_some hh)).run pins s τ H Q I ?_
  refine tB_bind st h fun w1 M1 H1 x v k1 s1 r1 h1 => ?_
  refine tE_bind s1 h1 fun w2 M2 H2 y u k2 s2 r2 h2 => ?_
  obtain ⟨i, rfl, h3⟩ := asI_sat r2 h2
  refine ⟨i, rfl, tE_bind s2 h3 fun w3 M3 H3 y3 u3 k3 s3 r3 h3 => ?_⟩
  obtain ⟨j, rfl, h4⟩ := asI_sat r3 h3
  exact ⟨j, rfl, w3, M3, _, s3.m, RV.look s3.m ((r1.keep k2).keep k3), h4⟩
theorem n_slc (ok : Ok q X c z W) (ha : PE X a' (tB c z W (evE P cl a))) (hl : PE X l' (tE c z W (evE P cl l))) (hh : PE X h' (tE c z W (evE P cl h))) : PE X (.Subscript a' (.Slice (some l') (some h') none p2) pos) (tN c z W (evE P cl (.slc a l h))) := by
  refine ⟨fun pins s τ H Q I h => ?_⟩
  obtain ⟨w, σ, M, st, h⟩ := h
  rw [evE] at h
  refine (pe_slice (sl_n (c := c) (z := z) (E := fun cl d H' => W cl d τ H') ok.hK) ha (po_some hl) (po_some hh)).run pins s τ H Q I ?_
  refine tB_bindN st h fun w1 M1 H1 x v k1 s1 r1 h1 => ?_
  refine tE_bindN s1 h1 fun w2 M2 H2 y u k2 s2 r2 h2 => ?_
  obtain ⟨i, rfl, h3⟩ := asI_satN r2 h2
  refine ⟨i, rfl, tE_bindN s2 h3 fun w3 M3 H3 y3 u3 k3 s3 r3 h3 => ?_⟩
  obtain ⟨j, rfl, h4⟩ := asI_satN r3 h3
  exact ⟨j, rfl, w3, M3, _, s3.m, RV.look s3.m ((r1.keep k2).keep k3), h4⟩
end
end Z


set_option Elab.async false
set_option linter.all false
set_option autoImplicit false
set_option maxRecDepth 100000
set_option maxHeartbeats 4000000
namespace Z
open PySem L2

theorem nos_any {pos : Pos} {env : Env} : ∀ {es : List PySem.Expr}, es.all plainB = true → (backTo pos (starEach es env)).any (·.1) = false
  | [], _ => rfl
  | e :: es, h => by
    simp only [List.all_cons, Bool.and_eq_true] at h
    rw [plain_star h.1]
    show (false || (backTo pos (starEach es env)).any (·.1)) = false
    rw [nos_any h.2]; rfl
theorem nos_all {pos : Pos} {env : Env} : ∀ {es : List PySem.Expr}, es.all plainB = true → (backTo pos (starEach es env)).all (fun x => !x.1) = true
  | [], _ => rfl
  | e :: es, h => by
    simp only [List.all_cons, Bool.and_eq_true] at h
    rw [plain_star h.1]
    show (true && (backTo pos (starEach es env)).all (fun x => !x.1)) = true
    rw [nos_all h.2]; rfl
theorem base_ok {o : PySem.Expr} {m : Str} {env : Env} (h : baseB o = true) : attributeBase o m env (eval o env) = eval o env := by
  unfold baseB at h
  unfold attributeBase
  split at h
  · rename_i id p1 p2
    have e : (id != ("super" : Str)) = true := by simpa [bne] using h
    simp only [e, Bool.true_or, if_true]
    first | done | exact bind_pure _
  · split
    · rename_i id p1 p2 hne
      exact absurd rfl (hne id p1 p2)
    · rfl
section
variable {q : Bool} {X : Cx} {c : Cz} {z : Ez} {W : WX} {P : Prg} {cl : Call}
/-- which built-ins are covered -/
def biB (q : Bool) : Bi → Bool
  | .len | .list_ | .tuple_ | .int_ | .str_ | .abs_ | .ord_ => true
  | .min_ | .max_ | .sum_ | .any_ | .all_ => q
  | _ => false
theorem e_bi {b : Bi} {as : Es} {e' : PySem.Expr} {as' : List PySem.Expr} {p pos : Pos} (ok : Ok q X c z W) (hb : biB q b = true) (hg : glB X.env.scope.names (biN b) = true) (hp : plainB e' = true) (hp2 : as'.all plainB = true)
    (ha : PA X (e' :: as') (tF c z W (flg as) (evEs P cl as))) : PE X (.Call (.Name (biN b) p) (e' :: as') [] pos) (tE c z W (evE P cl (.bi b as))) := by
  obtain ⟨g1, g2, g3⟩ := glB_ok hg
  refine ⟨fun pins s τ H Q I h => ?_⟩
  obtain ⟨w, σ, M, st, h⟩ := h
  rw [evE] at h
  have fin : tCB (rBi c z (fun cl d H' => W cl d τ H') b) (tF c z W (flg as) (evEs P cl as)) τ H Q := by
    refine tF_bind st h fun w1 M1 H1 ds vs k1 s1 r1 h1 => ?_
    exact ⟨w1, M1, ds, s1.m, r1.all, h1⟩
  cases b <;> first | (cases hb; done) | skip
  case len => exact (pe_callB (x := "len") (cl_len ok.hK) g1 (ok.bn _ (by decide)) (by decide) ha (by decide) (by decide) (plain_star hp) (nos_any hp2)).run pins s τ H Q I fin
  case list_ => exact (pe_callTy (x := "list") (cl_list ok.hK) g1 (ok.bn _ (by decide)) (by decide) ha (by decide) (by decide) (plain_star hp) (nos_any hp2)).run pins s τ H Q I fin
  case tuple_ => exact (pe_callTy (x := "tuple") (cl_tuple ok.hK) g1 (ok.bn _ (by decide)) (by decide) ha (by decide) (by decide) (plain_star hp) (nos_any hp2)).run pins s τ H Q I fin
  case int_ => exact (pe_callTy (x := "int") cl_int g1 (ok.bn _ (by decide)) (by decide) ha (by decide) (by decide) (plain_star hp) (nos_any hp2)).run pins s τ H Q I fin
  case str_ => exact (pe_callTy (x := "str") cl_str g1 (ok.bn _ (by decide)) (by decide) ha (by decide) (by decide) (plain_star hp) (nos_any hp2)).run pins s τ H Q I fin
  case min_ => exact (pe_callB (x := "min") (cl_min (ok.calm hb)) g1 (ok.bn _ (by decide)) (by decide) ha (by decide) (by decide) (plain_star hp) (nos_any hp2)).run pins s τ H Q I fin
  case max_ => exact (pe_callB (x := "max") (cl_max (ok.calm hb)) g1 (ok.bn _ (by decide)) (by decide) ha (by decide) (by decide) (plain_star hp) (nos_any hp2)).run pins s τ H Q I fin
  case abs_ => exact (pe_callB (x := "abs") cl_abs g1 (ok.bn _ (by decide)) (by decide) ha (by decide) (by decide) (plain_star hp) (nos_any hp2)).run pins s τ H Q I fin
  case sum_ => exact (pe_callB (x := "sum") (cl_sum ok.hK (ok.calm hb)) g1 (ok.bn _ (by decide)) (by decide) ha (by decide) (by decide) (plain_star hp) (nos_any hp2)).run pins s τ H Q I fin
  case any_ => exact (pe_callB (x := "any") (cl_any ok.hK (ok.calm hb)) g1 (ok.bn _ (by decide)) (by decide) ha (by decide) (by decide) (plain_star hp) (nos_any hp2)).run pins s τ H Q I fin
  case all_ => exact (pe_callB (x := "all") (cl_all ok.hK (ok.calm hb)) g1 (ok.bn _ (by decide)) (by decide) ha (by decide) (by decide) (plain_star hp) (nos_any hp2)).run pins s τ H Q I fin
  case ord_ => exact (pe_callB (x := "ord") cl_ord g1 (ok.bn _ (by decide)) (by decide) ha (by decide) (by decide) (plain_star hp) (nos_any hp2)).run pins s τ H Q I fin
theorem n_list {as : Es} {e' : PySem.Expr} {as' : List PySem.Expr} {p pos : Pos} (ok : Ok q X c z W) (hg : glB X.env.scope.names "list" = true) (hp : plainB e' = true) (hp2 : as'.all plainB = true)
    (ha : PA X (e' :: as') (tF c z W (flg as) (evEs P cl as))) : PE X (.Call (.Name "list" p) (e' :: as') [] pos) (tN c z W (evE P cl (.bi .list_ as))) := by
  obtain ⟨g1, g2, g3⟩ := glB_ok hg
  refine ⟨fun pins s τ H Q I h => ?_⟩
  obtain ⟨w, σ, M, st, h⟩ := h
  rw [evE] at h
  refine (pe_callTy (x := "list") (cl_listN (c := c) (z := z) (E := fun cl d H' => W cl d τ H') ok.hK) g1 (ok.bn _ (by decide)) (by decide) ha (by decide) (by decide) (plain_star hp) (nos_any hp2)).run pins s τ H Q I ?_
  refine tF_bindN st h fun w1 M1 H1 ds vs k1 s1 r1 h1 => ?_
  exact ⟨w1, M1, ds, s1.m, r1.all, h1⟩
end
end Z


set_option Elab.async false
set_option linter.all false
set_option autoImplicit false
set_option maxRecDepth 100000
set_option maxHeartbeats 4000000
namespace Z
open PySem L2

/-! ### a new object of the store -/
def Wd.new (w : Wd) (p : Addr) : Wd := { w with rh := fun n => if n = w.nx then p else w.rh n, nx := w.nx + 1 }
section
variable {c : Cz} {z : Ez} {E : XK} {w : Wd} {M : Sto} {H H' : Hp} {Q : VK} {p : Addr}
theorem Wle.new : Wle w (w.new p) := ⟨fun _ _ h => h, Nat.le_succ _, fun n hn => if_neg (Nat.ne_of_lt hn)⟩
theorem new_self : (w.new p).rh w.nx = p := if_pos rfl
theorem new_old {n : Nat} (h : n < w.nx) : (w.new p).rh n = w.rh n := if_neg (Nat.ne_of_lt h)
theorem Sto.new_at {mo : MO} {n : Nat} {mo' : MO} (h : (M.new mo).m n = some mo') : (n = M.nx ∧ mo' = mo) ∨ (n ≠ M.nx ∧ M.m n = some mo') := by
  have h : (if n = M.nx then some mo else M.m n) = some mo' := h
  by_cases e : n = M.nx
  · rw [if_pos e] at h; cases h; exact .inl ⟨e, rfl⟩
  · rw [if_neg e] at h; exact .inr ⟨e, h⟩
theorem keep_new {mo : MO} (m : MR c w M H) (hp : H p = none) (hs : ∀ a u, H a = some u → H' a = some u) (th : ∀ a, H' a = none → H a = none) : Keep w M H (w.new p) (M.new mo) H' := by
  refine ⟨.new, fun a u e _ => hs a u e, fun a u e k => ?_, fun a h => ?_, th⟩
  · have e : w.F a = some u := e
    rw [e] at k; cases k
  · obtain ⟨n, mo', h1, h2⟩ := h
    rcases Sto.new_at h1 with ⟨e, _⟩ | ⟨e, h3⟩
    · rw [e, m.nx, new_self] at h2; exact .inl (h2 ▸ hp)
    · rw [new_old (m.st n mo' h3).1] at h2
      exact .inr ⟨n, mo', h3, h2⟩
theorem MR.new {mo : MO} {o : HO} (m : MR c w M H) (hp : H p = none) (hs : ∀ a u, H a = some u → H' a = some u) (ho : H' p = some o) (r : MOr c w o mo) : MR c (w.new p) (M.new mo) H' := by
  refine ⟨?_, fun a u e => hs a u (m.sub a u e), fun n mo' h => ?_, fun n n' mo1 mo2 h1 h2 e => ?_⟩
  · show M.nx + 1 = w.nx + 1
    rw [m.nx]
  · rcases Sto.new_at h with ⟨e, e2⟩ | ⟨e, h3⟩
    · subst e2
      rw [e, m.nx, new_self]
      exact ⟨Nat.lt_succ_self _, (m.fresh hp).1, o, ho, r.le .new⟩
    · obtain ⟨h4, h5, u, h6, h7⟩ := m.st n mo' h3
      rw [new_old h4]
      exact ⟨Nat.lt_succ_of_lt h4, h5, u, hs _ _ h6, h7.le .new⟩
  · rcases Sto.new_at h1 with ⟨e1, _⟩ | ⟨e1, h3⟩ <;> rcases Sto.new_at h2 with ⟨e2, _⟩ | ⟨e2, h4⟩
    · rw [e1, e2]
    · obtain ⟨k1, _, u, k2, _⟩ := m.st n' mo2 h4
      rw [e1, m.nx, new_self, new_old k1] at e
      rw [← e, hp] at k2; cases k2
    · obtain ⟨k1, _, u, k2, _⟩ := m.st n mo1 h3
      rw [e2, m.nx, new_self, new_old k1] at e
      rw [e, hp] at k2; cases k2
    · rw [new_old (m.st n mo1 h3).1, new_old (m.st n' mo2 h4).1] at e
      exact m.inj n n' mo1 mo2 h3 h4 e
theorem upd_keeps {o : HO} (hp : H p = none) (a : Addr) (u : HO) (h : H a = some u) : upd H p o a = some u := by
  rw [upd_ne (ne_of_none h hp)]; exact h
end

/-! ### what a def promises -/
def spOf (c : Cz) (z : Ez) (P : Prg) (cl : Call) (f : Nat) : Sp := fun vs H Q E => ∃ w M ds, MR c w M H ∧ Rf c w M H (P.brw f) ds vs ∧ ds.length = P.ar f ∧ Sat c z E w M H (cl f ds M) Q
/-- the def f stands at fa and keeps its promise, with its defaults -/
structure FnZ (X : Cx) (c : Cz) (z : Ez) (P : Prg) (cl : Call) (f : Nat) (fa : Addr) : Prop where
  ex : ∃ (k : Nat) (fd : FuncData) (ps : List Str), FnOk X.prog X.w X.K X.mg X.base (L2N.CX X.prog X.w) k fa fd ps (spOf c z P cl f) ∧ Room (k + 1) X.A ∧ ps.length = P.ar f ∧
    ∀ n, n + (P.dfl f n).length = P.ar f → ∃ (ds : List Value) (dvs : List V), Binds X.K fd ps ds ∧ Vals dvs ds ∧ ∀ w : Wd, Rs c w (P.dfl f n) dvs
  kp : PySem.W.keepIn X.K (.ref fa) = true
theorem ar_sat {c : Cz} {z : Ez} {E : XK} {w : Wd} {M : Sto} {H : Hp} {Q : VK} {P : Prg} {cl : Call} {f : Nat} {ds : List D} (h : Sat c z E w M H (callA P cl f ds M) Q) : ds.length = P.ar f ∧ Sat c z E w M H (cl f ds M) Q := by
  unfold callA at h
  by_cases e : ds.length = P.ar f
  · rw [if_pos e] at h; exact ⟨e, h⟩
  · rw [if_neg e] at h; exact h.elim
section
variable {q : Bool} {X : Cx} {c : Cz} {z : Ez} {W : WX} {P : Prg} {cl : Call}
/-- the callee runs, by its promise -/
theorem run_z {f : Nat} {fa : Addr} (F : FnZ X c z P cl f fa) (tk : L2N.Takes X W) {pins : List (Addr × Obj)} {τ : St} {H : Hp} {s : Shared} {Q : VK} {us : List Value} {vs : List V} {ds : List D} {w : Wd} {M : Sto} {n : Nat} (I : Inv X pins τ H s) (r : Vals vs us)
    (m : MR c w M H) (rf : Rf c w M H (P.brw f) ds vs) (en : n = ds.length) (h : Sat c z (fun cl d H' => W cl d τ H') w M H (callA P cl f (ds ++ P.dfl f n) M) Q) : wpAny (model X.prog X.w) X.A (call (.ref fa) us) (EP X pins τ Q) X.xe s := by
  subst en
  obtain ⟨hl, h⟩ := ar_sat h
  rw [List.length_append] at hl
  obtain ⟨k, fd, ps, F1, hr, hp, hd⟩ := F.ex
  obtain ⟨dv, dvs, hb, rd, rs⟩ := hd _ hl
  exact run_fnSD (E := WE W) F1 (hr.mono (Nat.le_succ _)) hb rd (L2N.passAt tk τ) I r ⟨w, M, _, m, rf.app (rs w), by rw [List.length_append]; exact hl, h⟩
theorem name_dbg {x : Str} {env : Env} (h : glB env.scope.names x = true) : (x == ("__debug__" : Str)) = false := by
  unfold glB at h
  simp only [Bool.and_eq_true, Bool.not_eq_true'] at h
  exact h.1.2
theorem e_call {f : Nat} {fa : Addr} {x : Str} {as : Es} {e' : PySem.Expr} {as' : List PySem.Expr} {p pos : Pos} (ok : Ok q X c z W) (F : FnZ X c z P cl f fa) (hm : X.mg x = some (.ref fa)) (hg : glB X.env.scope.names x = true) (hp : plainB e' = true) (hp2 : as'.all plainB = true)
    (hf : leF (flg as) (P.brw f) = true) (ha : PA X (e' :: as') (tF c z W (flg as) (evEs P cl as))) : PE X (.Call (.Name x p) (e' :: as') [] pos) (tE c z W (evE P cl (.call f as))) := by
  obtain ⟨g1, g2, g3⟩ := glB_ok hg
  refine ⟨fun pins s τ H Q I h => ?_⟩
  obtain ⟨w, σ, M, st, h⟩ := h
  rw [evE] at h
  refine wpAny_Call_Name_kw (ld_glob I g1 hm ?_ g2)
  refine PySem.W.callWith_K (h₀ := X.base) I.ok.mod.kin F.kp (thn (ha.run pos pins s τ H (fun vs H1 => ∃ w1 M1 ds, MR c w1 M1 H1 ∧ Rf c w1 M1 H1 (flg as) ds vs ∧ Sat c z (fun cl d H' => W cl d τ H') w1 M1 H1 (callA P cl f (ds ++ P.dfl f ds.length) M1) Q) I ?_) fun us s1 ⟨vs, H1, I1, r, w1, M1, ds, m1, rf, q⟩ => ⟨I1.kIn, ?_⟩) (plain_star hp) (nos_any hp2)
  · refine tF_bind st h fun w1 M1 H1 ds vs k1 s1 r1 h1 => ?_
    exact ⟨w1, M1, ds, s1.m, r1, h1⟩
  · exact run_z F ok.tk I1 r m1 (rf.mono hf) rfl q
theorem e_call0 {f : Nat} {fa : Addr} {x : Str} {p pos : Pos} (ok : Ok q X c z W) (F : FnZ X c z P cl f fa) (hm : X.mg x = some (.ref fa)) (hg : glB X.env.scope.names x = true) : PE X (.Call (.Name x p) [] [] pos) (tE c z W (evE P cl (.call f .nil))) := by
  obtain ⟨g1, g2, g3⟩ := glB_ok hg
  refine ⟨fun pins s τ H Q I h => ?_⟩
  obtain ⟨w, σ, M, st, h⟩ := h
  rw [evE, evEs] at h
  refine wpAny_Call_Name_kw (ld_glob I g1 hm ?_ g2)
  exact PySem.W.callWith_K0 I.kIn F.kp (run_z (us := []) (ds := []) F ok.tk I .nil st.m rfl rfl h)

/-! ### instances -/
theorem ins_v {w : Wd} {M : Sto} {H : Hp} {d : D} {v : V} {k : Nat} {ns : List Nat} {vs : List D} (m : MR c w M H) (r : RB c w M H d v) (h : insOf M d = some (k, ns, vs)) :
    ∃ a dx fs, v = .ref a ∧ H a = some (.ins (c.ca k) dx fs) ∧ fs.map (·.1) = ns.map c.an ∧ Rs c w vs (fs.map (·.2)) := by
  rcases r with r | ⟨p, o, mo, e, h2, h3, h4, h5, h6⟩
  · cases d with
    | obj k' ns' vs' =>
      cases h
      obtain ⟨a, dx, fs, e, q, r1, r2⟩ := r
      exact ⟨a, dx, fs, e, m.sub _ _ q, r1, r2⟩
    | ref n =>
      obtain ⟨e, hn⟩ := r
      cases hm : M.m n with
      | none => simp [insOf, hm] at h
      | some mo =>
        obtain ⟨_, _, o, ho, hr⟩ := m.st n mo hm
        cases mo with
        | ins k' ns' vs' =>
          simp only [insOf, hm] at h
          cases h
          obtain ⟨dx, fs, eo, r1, r2⟩ := hr
          exact ⟨_, dx, fs, e, by rw [ho, eo], r1, r2⟩
        | lst ds => simp [insOf, hm] at h
        | dct ks vs => simp [insOf, hm] at h
    | _ => cases h
  · cases mo <;> cases h6 <;> cases h
theorem fld_v {w : Wd} (inj : ∀ a b, c.an a = c.an b → a = b) {f : Nat} {d : D} : ∀ {ns : List Nat} {vs : List D} {fs : List (Str × V)}, fs.map (·.1) = ns.map c.an → Rs c w vs (fs.map (·.2)) → (ns.zip vs).lookup f = some d → ∃ v, fs.lookup (c.an f) = some v ∧ R c w d v
  | [], _, _, _, _, h => by simp at h
  | n :: ns, vs, [], e, _, _ => by simp at e
  | n :: ns, [], p :: fs, e, r, h => by simp at h
  | n :: ns, d' :: vs, (x, v) :: fs, e, ⟨y, ys, e2, r1, r2⟩, h => by
    simp only [List.map_cons, List.cons.injEq] at e e2
    obtain ⟨rfl, e⟩ := e
    obtain ⟨rfl, e2⟩ := e2
    rw [← e2] at r2
    by_cases hf : f = n
    · subst hf
      simp only [List.zip_cons_cons, List.lookup_cons, beq_self_eq_true] at h ⊢
      cases h
      exact ⟨_, rfl, r1⟩
    · have h1 : (f == n) = false := by simpa using hf
      have h2 : (c.an f == c.an n) = false := by
        have : c.an f ≠ c.an n := fun z => hf (inj _ _ z)
        simpa using this
      simp only [List.zip_cons_cons, List.lookup_cons, h1, h2] at h ⊢
      exact fld_v inj e r2 h
theorem fld_none (inj : ∀ a b, c.an a = c.an b → a = b) {f : Nat} : ∀ {ns : List Nat} {fs : List (Str × V)}, fs.map (·.1) = ns.map c.an → ¬ f ∈ ns → fs.lookup (c.an f) = none
  | [], [], _, _ => rfl
  | [], _ :: _, e, _ => by simp at e
  | n :: ns, [], e, _ => rfl
  | n :: ns, (x, v) :: fs, e, h => by
    simp only [List.map_cons, List.cons.injEq] at e
    obtain ⟨rfl, e⟩ := e
    simp only [List.mem_cons, not_or] at h
    have h2 : (c.an f == c.an n) = false := by
      have : c.an f ≠ c.an n := fun z => h.1 (inj _ _ z)
      simpa using this
    simp only [List.lookup_cons, h2]
    exact fld_none inj e h.2
/-- the classes -/
structure ClsZ (X : Cx) (c : Cz) (P : Prg) : Prop where
  inj : ∀ a b, c.an a = c.an b → a = b
  fld : ∀ k f, P.fld k f = true → Cls X.K (c.ca k) ∧ NoAttr X.K (c.ca k) (c.an f)
theorem e_att {f : Nat} {o : E} {o' : PySem.Expr} {pos : Pos} (C : ClsZ X c P) (hb : baseB o' = true) (ho : PE X o' (tB c z W (evE P cl o))) : PE X (.Attribute o' (c.an f) pos) (tE c z W (evE P cl (.att f o))) := by
  refine PE.imp (pe_fld ho (base_ok hb)) fun τ H Q ⟨w, σ, M, st, h⟩ => ?_
  rw [evE] at h
  refine tB_bind st h fun w1 M1 H1 x v k1 s1 r1 h1 => ?_
  obtain ⟨⟨k, ns, vs⟩, hi, h1⟩ := match_sat h1
  obtain ⟨hf, h1⟩ := if_sat h1
  obtain ⟨d, hd, h1⟩ := match_sat h1
  obtain ⟨a, dx, fs, rfl, ha, e1, rs⟩ := ins_v s1.m r1 hi
  obtain ⟨v', hv, rv⟩ := fld_v C.inj e1 rs hd
  obtain ⟨c1, c2⟩ := C.fld k f hf
  exact ⟨a, _, dx, fs, v', rfl, ha, c1, c2, hv, Sat.here h1 s1.m rv⟩
structure NeK (K : PySem.W.Frag) (C : Addr) : Prop where
  ne : PySem.W.findIn K (.ref C) "__ne__" = some (some (.builtin "object.__ne__"))
  ob : PySem.W.mroIn K C (.type "object") = some true
/-- a method of a class -/
structure MthZ (X : Cx) (c : Cz) (z : Ez) (P : Prg) (cl : Call) (k m f : Nat) : Prop where
  ex : ∃ g, Cls X.K (c.ca k) ∧ Meth X.K (c.ca k) (c.an m) g ∧ FnZ X c z P cl f g
  ne : c.an m = ("__eq__" : Str) → NeK X.K (c.ca k)
/-- a property of a class -/
structure PrpZ (X : Cx) (c : Cz) (z : Ez) (P : Prg) (cl : Call) (k m f : Nat) : Prop where
  ex : ∃ p g, Cls X.K (c.ca k) ∧ PropOf X.K (c.ca k) (c.an m) p g ∧ FnZ X c z P cl f g
theorem nox_pass : Passes (L2N.CX X.prog X.w) X.nox (fun _ _ _ => False) := fun pins s H s1 e s' I h => by
  obtain ⟨_, _, _, _, _, _, _, _, _, _, _, _, h⟩ := h
  exact h.elim
theorem e_prp {m : Nat} {o : E} {o' : PySem.Expr} {pos : Pos} (Pt : ∀ k f, P.prp k m = some f → PrpZ X c z P cl k m f) (hb : baseB o' = true)
    (ho : PE X o' (tE c z W (evE P cl o))) : PE X (.Attribute o' (c.an m) pos) (tE c z W (evE P cl (.prp m o))) := by
  refine ⟨fun pins s τ H Q I h => ?_⟩
  obtain ⟨w, σ, M, st, h⟩ := h
  rw [evE] at h
  refine attr_of (base_ok hb) (thn (ho.run pins s τ H (fun x H1 => ∃ w1 M1 d, SR c w1 σ M1 τ H1 ∧ R c w1 d x ∧ Sat c z (fun cl d H' => W cl d τ H') w1 M1 H1 ((insOf M1 d).elim .bad fun q => (P.prp q.1 m).elim .bad fun f => match callA P cl f ([d] ++ P.dfl f 1) M1 with
      | .exc _ _ _ => .bad
      | r => r) Q) I ?_) fun u s1 ⟨x, H1, I1, rx, w1, M1, d, st1, rd, q⟩ => ?_)
  · refine tE_bind st h fun w1 M1 H1 x v k1 s1 r1 h1 => ?_
    exact ⟨w1, M1, x, s1, r1, h1⟩
  · obtain ⟨⟨k, ns, vs⟩, hi, q⟩ := match_sat q
    obtain ⟨f, hf1, q⟩ := match_sat q
    obtain ⟨p, g, c1, c2, F⟩ := (Pt k f hf1).ex
    obtain ⟨a, dx, fs, rfl, hA, e1, rs⟩ := ins_v st1.m (.inl rd) hi
    cases (show u = Value.ref a from rx)
    have q2 : Sat c z (fun _ _ _ => False) w1 M1 H1 (callA P cl f ([d] ++ P.dfl f 1) M1) Q := by
      cases e : callA P cl f ([d] ++ P.dfl f 1) M1 with
      | ok y M2 => rw [e] at q; exact q
      | exc k2 y M2 => rw [e] at q; exact q.elim
      | bad => rw [e] at q; exact q.elim
    obtain ⟨hl, q3⟩ := ar_sat q2
    rw [List.length_append] at hl
    obtain ⟨n, fd, ps, F1, hr, hps, hd⟩ := F.ex
    obtain ⟨dv, dvs, hb2, rd2, rs2⟩ := hd 1 hl
    have rf : Rf c w1 M1 H1 (P.brw f) [d] [.ref a] := ⟨_, _, rfl, .inl rd, rfl⟩
    exact getprop_ok I1 hA c1 c2 F1 hr hb2 rd2 nox_pass ⟨w1, M1, _, st1.m, rf.app (rs2 w1), by rw [List.length_append]; exact hl, q3⟩
theorem mth_eq {o' : PySem.Expr} {m : Str} {apos pos : Pos} {as' : List PySem.Expr} {env : Env} (hb : baseB o' = true) (hl : (apos.endLine == pos.line) = true) (hn : decide (as'.length < 20) = true) (hp : as'.all plainB = true) :
    eval (.Call (.Attribute o' m apos) as' [] pos) env = (do
      let ov ← eval o' env
      standAt apos.atName
      let (f, first) ← holding [ov] (getMethod ov m (do return (← importBound o' env).getD true))
      callWith pos f first (backTo pos (starEach as' env)) (backToKw pos (keywordEach [] env))) := by
  have few : methodCallForm (as'.length + ([] : List Keyword).length) (backTo pos (starEach as' env)) (backToKw pos (keywordEach [] env)) = true := by
    unfold methodCallForm
    rw [nos_all hp]
    have hn := of_decide_eq_true hn
    show (true && true && decide (as'.length + 0 + 0 < 30)) = true
    simp; omega
  rw [arm_eval_Call, base_ok hb]
  unfold methodCall calleeOf methodCallPos
  simp only [few, if_true, hl, Bool.not_true, Bool.false_or, pure_bind]
theorem e_mth {m : Nat} {o : E} {o' : PySem.Expr} {as : Es} {e' : PySem.Expr} {as' : List PySem.Expr} {apos pos : Pos} (ok : Ok q X c z W) (C : ClsZ X c P) (Mt : ∀ k f, P.mth k m = some f → MthZ X c z P cl k m f) (hb : baseB o' = true) (hl : (apos.endLine == pos.line) = true) (hn : decide ((e' :: as').length < 20) = true) (hp : plainB e' = true) (hp2 : as'.all plainB = true)
    (hf : ∀ k f, P.mth k m = some f → leF (flg as) (P.brw f).tail = true) (ho : PE X o' (tE c z W (evE P cl o))) (ha : PA X (e' :: as') (tF c z W (flg as) (evEs P cl as))) : PE X (.Call (.Attribute o' (c.an m) apos) (e' :: as') [] pos) (tE c z W (evE P cl (.mth m o as))) := by
  refine ⟨fun pins s τ H Q I h => ?_⟩
  obtain ⟨w, σ, M, st, h⟩ := h
  rw [evE] at h
  refine PySem.W.methodCall_KW (thn (ho.run pins s τ H (fun x H1 => ∃ w1 M1 d, SR c w1 σ M1 τ H1 ∧ R c w1 d x ∧ Sat c z (fun cl d H' => W cl d τ H') w1 M1 H1 ((insOf M1 d).elim .bad fun q => if m ∈ q.2.1 then .bad else
      (P.mth q.1 m).elim .bad fun f => (evEs P cl as σ M1).bind fun ds M2 => callA P cl f (d :: (ds ++ P.dfl f (ds.length + 1))) M2) Q) I ?_) fun u s1 ⟨x, H1, I1, rx, w1, M1, d, st1, rd, q⟩ => ?_) (mth_eq hb hl hn (by simp only [List.all_cons, Bool.and_eq_true]; exact ⟨hp, hp2⟩))
  · refine tE_bind st h fun w1 M1 H1 x v k1 s1 r1 h1 => ?_
    exact ⟨w1, M1, x, s1, r1, h1⟩
  · obtain ⟨⟨k, ns, vs⟩, hi, q⟩ := match_sat q
    by_cases hm : m ∈ ns
    · rw [if_pos hm] at q; exact q.elim
    rw [if_neg hm] at q
    obtain ⟨f, hf1, q⟩ := match_sat q
    obtain ⟨g, c1, c2, F⟩ := (Mt k f hf1).ex
    obtain ⟨a, dx, fs, rfl, hA, e1, rs⟩ := ins_v st1.m (.inl rd) hi
    cases (show u = Value.ref a from rx)
    refine getmeth_ok I1 hA c1 c2 (fld_none C.inj e1 hm) ?_
    refine PySem.W.callWith_K (first := [.ref a]) (h₀ := X.base) I1.ok.mod.kin c2.kp (thn (ha.run pos pins s1 τ H1 (fun vs H2 => ∃ w2 M2 ds, MR c w2 M2 H2 ∧ R c w2 d (.ref a) ∧ Rf c w2 M2 H2 (flg as) ds vs ∧
      Sat c z (fun cl d H' => W cl d τ H') w2 M2 H2 (callA P cl f (d :: (ds ++ P.dfl f (ds.length + 1))) M2) Q) I1 ?_) fun us s2 ⟨vs, H2, I2, r, w2, M2, ds, m2, rd2, rf, q2⟩ => ⟨I2.kIn, ?_⟩) (plain_star hp) (nos_any hp2)
    · refine tF_bind st1 q fun w2 M2 H2 ds vs k2 s2 r2 h2 => ?_
      exact ⟨w2, M2, ds, s2.m, R.le k2.le _ _ rd, r2, h2⟩
    · exact run_z (us := .ref a :: us) (vs := .ref a :: vs) (ds := d :: ds) F ok.tk I2 (.cons rfl r) m2 ⟨_, _, rfl, .inl rd2, rf.mono (hf k f hf1)⟩ rfl q2
theorem e_mth0 {m : Nat} {o : E} {o' : PySem.Expr} {apos pos : Pos} (ok : Ok q X c z W) (C : ClsZ X c P) (Mt : ∀ k f, P.mth k m = some f → MthZ X c z P cl k m f) (hb : baseB o' = true) (hl : (apos.endLine == pos.line) = true)
    (ho : PE X o' (tE c z W (evE P cl o))) : PE X (.Call (.Attribute o' (c.an m) apos) [] [] pos) (tE c z W (evE P cl (.mth m o .nil))) := by
  refine ⟨fun pins s τ H Q I h => ?_⟩
  obtain ⟨w, σ, M, st, h⟩ := h
  rw [evE] at h
  refine PySem.W.methodCall_KW (thn (ho.run pins s τ H (fun x H1 => ∃ w1 M1 d, SR c w1 σ M1 τ H1 ∧ R c w1 d x ∧ Sat c z (fun cl d H' => W cl d τ H') w1 M1 H1 ((insOf M1 d).elim .bad fun q => if m ∈ q.2.1 then .bad else
      (P.mth q.1 m).elim .bad fun f => (evEs P cl .nil σ M1).bind fun ds M2 => callA P cl f (d :: (ds ++ P.dfl f (ds.length + 1))) M2) Q) I ?_) fun u s1 ⟨x, H1, I1, rx, w1, M1, d, st1, rd, q⟩ => ?_) (mth_eq hb hl rfl rfl)
  · refine tE_bind st h fun w1 M1 H1 x v k1 s1 r1 h1 => ?_
    exact ⟨w1, M1, x, s1, r1, h1⟩
  · obtain ⟨⟨k, ns, vs⟩, hi, q⟩ := match_sat q
    by_cases hm : m ∈ ns
    · rw [if_pos hm] at q; exact q.elim
    rw [if_neg hm] at q
    obtain ⟨f, hf1, q⟩ := match_sat q
    obtain ⟨g, c1, c2, F⟩ := (Mt k f hf1).ex
    obtain ⟨a, dx, fs, rfl, hA, e1, rs⟩ := ins_v st1.m (.inl rd) hi
    cases (show u = Value.ref a from rx)
    refine getmeth_ok I1 hA c1 c2 (fld_none C.inj e1 hm) ?_
    rw [evEs] at q
    exact PySem.W.callWith_K0 (first := [.ref a]) I1.kIn c2.kp (run_z (us := [.ref a]) (vs := [.ref a]) (ds := [d]) F ok.tk I1 (.cons rfl .nil) st1.m ⟨_, _, rfl, .inl rd, rfl⟩ rfl q)
end
end Z


set_option Elab.async false
set_option linter.all false
set_option autoImplicit false
set_option maxRecDepth 100000
set_option maxHeartbeats 4000000
namespace Z
open PySem L2

/-! ### == and != by an own __eq__ -/
section
variable {M : Model} {prog : Program} {w : World} {A : Around} {E : Value → Shared → Prop} {s : Shared} {K : PySem.W.Frag} {x y C L f : Addr} {h₀ : Heap} {m : Str → Option Value} {ox : Obj} {od : Option Obj} {name : Str} {b tb : Value}
theorem ifBound_B {id : String} {args : List Value} {Q : Option Value → Shared → Prop} (X : K.In s.heap) (I : PySem.W.InstAt s.heap x ox C od) (hs : PySem.W.findIn K (.ref C) name = some (some (.builtin id)))
    (hb : ∀ self : Value, bindSpecial (.builtin id) self = Pure.pure (Value.builtin id, [self]))
    (h : wpAny M A (call (.builtin id) (.ref x :: args)) (fun v => Q (some v)) E s) : wpAny M A (callSpecialIfBound? (.ref x) name args) Q E s := by
  simp only [callSpecialIfBound?, bindSpecialIfBound?]
  refine wpAny_holding (wpAny_bind (wpAny_bind (wpAny_bind (I.type.here ((PySem.W.looks_findIn X hs).here ?_)))))
  refine wpAny_bind (wpAny_askSetting (wpAny_ite ?_))
  have fin : wpAny M A (call (.builtin id) ([.ref x] ++ args) >>= fun v => Pure.pure (some v)) Q E s := wpAny_bind (wpAny_mono h (fun v s' h' => wpAny_pure h') fun _ _ h' => h')
  rw [hb]
  split
  · exact wpAny_bind (wpAny_pure (wpAny_pure (by exact fin)))
  · exact wpAny_tryCatch (wpAny_bind (wpAny_pure (wpAny_pure (by exact fin))))
theorem check_B {id owner n : String} {rest : List Value} {Q : Unit → Shared → Prop} (hk : builtinKind id = some .slot) (hs : splitId id = some (owner, n)) (ha : argsOk id ⟨.ref x :: rest, []⟩)
    (X : K.In s.heap) (I : PySem.W.InstAt s.heap x ox C od) (hm : PySem.W.mroIn K C (.type owner) = some true) (hq : Q () s) : wpAny M A (checkBuiltinCall id ⟨.ref x :: rest, []⟩) Q E s := by
  simp only [checkBuiltinCall, hk, hs]
  refine wpAny_bind ?_
  unfold isInstance
  refine wpAny_bind (I.type.here ((PySem.W.looks_mroIn X hm).here ?_))
  cases hsig : Manifest.signature? id with
  | none => first | exact wpAny_pure hq | simpa using wpAny_pure hq
  | some sig =>
    simp only [argsOk, hsig] at ha
    have h2 : Bind.checkArgs id sig ⟨.ref x :: rest, []⟩ = Pure.pure () := ha
    show wpAny M A (Bind.checkArgs id sig ⟨.ref x :: rest, []⟩) Q E _
    rw [h2]; exact wpAny_pure hq
theorem args_ne2 (a b : Value) : argsOk "object.__ne__" ⟨[a, b], []⟩ := PySem.F.cmpArgs_ne a b
theorem objNe_K {Q : Fin → Shared → Prop} (hu : A.units < cLine) (X : K.In s.heap) (I : PySem.W.InstAt s.heap x ox C od) (hs : PySem.W.findIn K (.ref C) "__eq__" = some (some (.ref f))) (hf : PySem.W.isFn K (.ref f) = true)
    (hcall : wpAny (model prog w) A (call (.ref f) [.ref x, b]) (fun v s' => ∃ r, v = .bool r ∧ Q (.done (.ret (.bool (!r)))) s') E s) :
    wpAny (model prog w) A (Builtin.«object.__ne__» ⟨[.ref x, b], []⟩) Q E s := by
  unfold Builtin.«object.__ne__»
  refine wpAny_bind (wpAny_pure ?_)
  dsimp only
  refine wpAny_bind (wpAny_cRoomFor hu ?_)
  refine wpAny_bind (PySem.W.ifBound_K X I hs hf (wpAny_mono hcall (fun v s' hv => ?_) fun _ _ e => e))
  obtain ⟨r, rfl, hq⟩ := hv
  repeat (first | exact hq | exact wpAny_pure hq | exact wpAny_truthy_bool hq | (refine wpAny_bind (m := truthy (.bool _)) (wpAny_truthy_bool ?_)) | wp_step)
theorem ne_K {Q : Value → Shared → Prop} (hu : A.units + 1 < cLine) (X : K.In s.heap) (I : PySem.W.InstAt s.heap x ox C od) (hb : PySem.W.Looks (model prog w) s.heap (typeOf b) (.ref C)) (N : NeK K C)
    (hs : PySem.W.findIn K (.ref C) "__eq__" = some (some (.ref f))) (hf : PySem.W.isFn K (.ref f) = true)
    (hcall : wpAny (model prog w) A.in1 (call (.ref f) [.ref x, b]) (fun v s' => ∃ r, v = .bool r ∧ Q (.bool (!r)) s') E s) : wpAny (model prog w) A (richCompare .NotEq (.ref x) b) Q E s := by
  have one : wpAny (model prog w) A (tryCompare (.ref x) "__ne__" b) (fun r s' => ∃ v, r = some v ∧ Q v s') E s := by
    unfold tryCompare
    refine wpAny_bind (ifBound_B X I N.ne (fun self => PySem.F.cmp_object.ne.bind self) (wpAny_call (codeAny_call_builtin PySem.F.cmp_object.ne.plain PySem.F.cmpEntry_ne (check_B PySem.F.cmpKind_ne PySem.F.cmpSplit_ne (args_ne2 _ _) X I N.ob
      (objNe_K (A := A.in1) (Nat.lt_of_le_of_lt (by first | exact Nat.le_refl _ | exact Nat.le_succ _) hu) X I hs hf (wpAny_mono hcall (fun v s' hv => ?_) fun _ _ e => e))))))
    obtain ⟨r, rfl, hq⟩ := hv
    exact ⟨r, rfl, wpAny_pure ⟨_, rfl, hq⟩⟩
  unfold richCompare
  simp only [oneThing_ref]
  refine wpAny_holding (wpAny_bind (wpAny_cRoomFor (Nat.lt_of_succ_lt hu) ?_))
  refine wpAny_bind (I.type.here (wpAny_bind (hb.here ?_)))
  rw [show (Value.ref C != Value.ref C) = false from by simp]
  simp only [Bool.false_eq_true, if_false]
  refine wpAny_bind (wpAny_pure ?_)
  simp only [Bool.false_eq_true, if_false]
  refine wpAny_bind (wpAny_mono one (fun r s' z => ?_) fun _ _ e => e)
  obtain ⟨v, rfl, hq⟩ := z
  exact wpAny_pure hq
end
section
variable {q : Bool} {X : Cx} {c : Cz} {z : Ez} {W : WX} {P : Prg} {cl : Call}
theorem run_fnA {A : Around} {CX : CXT} {k : Nat} {f : Addr} {fd : FuncData} {ps : List Str} {sp : Sp} {dvs : List V} {ds : List Value} {E : St → XK} {pins : List (Addr × Obj)} {σ : St} {H : Hp} {s : Shared} {Q : VK} {us : List Value} {vs : List V} (hA : A.frames = X.A.frames)
    (F : FnOk X.prog X.w X.K X.mg X.base CX k f fd ps sp) (hr : Room k A) (hb : Binds X.K fd ps ds) (hd : Vals dvs ds) (hx : PassesAt CX X σ (E σ))
    (I : Inv X pins σ H s) (r : Vals vs us) (h : sp (vs ++ dvs) H Q (E σ)) : wpAny (model X.prog X.w) A (call (.ref f) us) (EP X pins σ Q) X.xe s := by
  have r2 : Vals (vs ++ dvs) (us ++ ds) := r.append hd
  have hl : (us ++ ds).length = ps.length := by rw [← r2.length]; exact F.len _ _ _ _ h
  have e0 : Env0 X.prog X.w X.K X.mg X.base A X.stack s H := by
    have e := I.env0
    exact ⟨by rw [hA]; exact e.frames, e.mod, e.bs, e.bsz, e.funs, e.frf, e.hok, e.bare⟩
  refine wpAny_call (codeAny_mono (F.run A X.stack s H ⟨us, []⟩ (us ++ ds) (vs ++ dvs) Q (E σ) hr e0 (hb s us I.kIn hl) r2 h) fun r s' hq => ?_)
  cases r with
  | error e => exact hx pins H s e s' I hq
  | ok fl =>
    cases fl with
    | ret u => exact I.after hq
    | next => exact False.elim hq
    | brk => exact False.elim hq
    | cont => exact False.elim hq
theorem run_zA {A : Around} (hA : A.frames = X.A.frames) (hR : ∀ k, Room (k + 1) X.A → Room k A) {f : Nat} {fa : Addr} (F : FnZ X c z P cl f fa) (tk : L2N.Takes X W) {pins : List (Addr × Obj)} {τ : St} {H : Hp} {s : Shared} {Q : VK} {us : List Value} {vs : List V} {ds : List D} {w : Wd} {M : Sto} {n : Nat} (I : Inv X pins τ H s) (r : Vals vs us)
    (m : MR c w M H) (rf : Rf c w M H (P.brw f) ds vs) (en : n = ds.length) (h : Sat c z (fun cl d H' => W cl d τ H') w M H (callA P cl f (ds ++ P.dfl f n) M) Q) : wpAny (model X.prog X.w) A (call (.ref fa) us) (EP X pins τ Q) X.xe s := by
  subst en
  obtain ⟨hl, h⟩ := ar_sat h
  rw [List.length_append] at hl
  obtain ⟨k, fd, ps, F1, hr, hp, hd⟩ := F.ex
  obtain ⟨dv, dvs, hb, rd, rs⟩ := hd _ hl
  exact run_fnA (E := WE W) hA F1 (hR k hr) hb rd (L2N.passAt tk τ) I r ⟨w, M, _, m, rf.app (rs w), by rw [List.length_append]; exact hl, h⟩
theorem sat_bind {E : XK} {w : Wd} {M : Sto} {H : Hp} {r : Res} {f : D → Sto → Res} {Q : VK} (h : Sat c z E w M H (r.bind f) Q) : Sat c z E w M H r (fun v H' => ∃ w' M' d, MR c w' M' H' ∧ R c w' d v ∧ Sat c z E w' M' H' (f d M') Q) := by
  cases r with
  | ok d M1 => exact fun w' H' v k m rd => ⟨w', M1, d, m, rd, Sat.step h k⟩
  | exc k d M1 => exact h
  | bad => exact h
theorem eqmR_bl {m : Nat} {x y d : D} {M M3 : Sto} (h : eqmR P cl m x y M = .ok d M3) : ∃ t, d = .bl t := by
  unfold eqmR at h
  cases h1 : insOf M x with
  | none => rw [h1] at h; cases h
  | some q =>
    rw [h1] at h
    cases h2 : insOf M y with
    | none => rw [h2] at h; cases h
    | some q' =>
      rw [h2] at h
      dsimp only [Option.elim] at h
      split at h
      · cases h3 : P.mth q.1 m with
        | none => rw [h3] at h; cases h
        | some f =>
          rw [h3] at h
          dsimp only [Option.elim] at h
          cases h4 : callA P cl f ([x, y] ++ P.dfl f 2) M with
          | ok r M2 =>
            rw [h4] at h
            cases r with
            | bl t => cases h; exact ⟨t, rfl⟩
            | _ => cases h
          | exc k r M2 => rw [h4] at h; cases h
          | bad => rw [h4] at h; cases h
      · cases h
/-- the two operands, their class and its def -/
theorem eqm_of {m : Nat} {x y : D} {u v : V} {w : Wd} {M : Sto} {H : Hp} {E : XK} {Q : VK} (Mt : ∀ k f, P.mth k m = some f → MthZ X c z P cl k m f) (m2 : MR c w M H) (rx : R c w x u) (ry : R c w y v) (h : Sat c z E w M H (eqmR P cl m x y M) Q) :
    ∃ k f g a b dx dy fs gs, u = .ref a ∧ v = .ref b ∧ H a = some (.ins (c.ca k) dx fs) ∧ H b = some (.ins (c.ca k) dy gs) ∧ MthZ X c z P cl k m f ∧ Meth X.K (c.ca k) (c.an m) g ∧ FnZ X c z P cl f g ∧
      Sat c z E w M H (callA P cl f ([x, y] ++ P.dfl f 2) M) (fun v H' => ∃ t, v = .bl t ∧ Q (.bl t) H') := by
  obtain ⟨⟨k, ns, vs⟩, hi, h⟩ := match_sat h
  obtain ⟨⟨k', ns', vs'⟩, hi', h⟩ := match_sat h
  by_cases hk : k = k'
  case neg => rw [if_neg hk] at h; exact h.elim
  rw [if_pos hk] at h
  subst hk
  obtain ⟨f, hf, h⟩ := match_sat h
  have N := Mt k f hf
  obtain ⟨g, c1, c2, F⟩ := N.ex
  obtain ⟨a, dx, fs, rfl, hA, _, _⟩ := ins_v m2 (.inl rx) hi
  obtain ⟨b, dy, gs, rfl, hB, _, _⟩ := ins_v m2 (.inl ry) hi'
  refine ⟨k, f, g, a, b, dx, dy, fs, gs, rfl, rfl, hA, hB, N, c2, F, ?_⟩
  have h2 := sat_bind h
  cases e : callA P cl f ([x, y] ++ P.dfl f 2) M with
  | ok d M1 =>
    rw [e] at h2
    intro w' H' v kk mm rr
    obtain ⟨w3, M3, d3, m3, r3, q3⟩ := h2 w' H' v kk mm rr
    cases d3 with
    | bl t => cases r3; exact ⟨t, rfl, q3.here m3 rfl⟩
    | _ => exact q3.elim
  | exc k d M1 => rw [e] at h2; exact h2
  | bad => rw [e] at h2; exact h2
theorem cmpE {m : Nat} {x y : D} {u v : Value} {xv yv : V} {w : Wd} {M : Sto} {H : Hp} {Q : VK} {pins : List (Addr × Obj)} {τ : St} {s : Shared} (ok : Ok q X c z W) (Mt : ∀ k f, P.mth k m = some f → MthZ X c z P cl k m f) (hm : c.an m = ("__eq__" : Str)) (I2 : Inv X pins τ H s) (rx : RelV xv u) (ry : RelV yv v)
    (m2 : MR c w M H) (r1 : R c w x xv) (r2 : R c w y yv) (h2 : Sat c z (fun cl d H' => W cl d τ H') w M H (eqmR P cl m x y M) Q) : wpAny (model X.prog X.w) X.A (compareOp .Eq u v) (EP X pins τ fun z H' => ∃ t, z = .bl t ∧ Q (.bl t) H') X.xe s := by
  obtain ⟨k, f, g, a, b, ex, ey, fs, gs, rfl, rfl, hA, hB, N, c2, F, hc⟩ := eqm_of Mt m2 r1 r2 h2
  cases rx
  cases ry
  obtain ⟨mA, J, _⟩ := ins_get I2.hok hA
  obtain ⟨mB, J', _⟩ := ins_get I2.hok hB
  obtain ⟨od, J, _⟩ := J.look
  obtain ⟨od', J', _⟩ := J'.look
  obtain ⟨mm, hF⟩ := I2.fr
  have hat := c2.at_
  rw [hm] at hat
  show wpAny (model X.prog X.w) X.A (richCompare .Eq (.ref a) (.ref b)) _ X.xe s
  refine PySem.W.cmp_K (op := .Eq) (tb := .ref (c.ca k)) (by have := ok.hu; omega) hF I2.ok.mod.kin J J'.type (by simp [PySem.W.notFirst]) hat c2.fn ?_
  refine wpAny_mono (run_z (us := [.ref a, .ref b]) (vs := [.ref a, .ref b]) (ds := [x, y]) F ok.tk I2 (.cons rfl (.cons rfl .nil)) m2 ⟨_, _, rfl, .inl r1, _, _, rfl, .inl r2, rfl⟩ rfl hc) (fun v s3 hv => ?_) fun _ _ e => e
  obtain ⟨v', H3, I3, rv, t, rfl, hq⟩ := hv
  cases rv
  exact ⟨.bl t, H3, I3, rfl, t, rfl, hq⟩
theorem cmpN {m : Nat} {x y : D} {u v : Value} {xv yv : V} {w : Wd} {M : Sto} {H : Hp} {Q : VK} {pins : List (Addr × Obj)} {τ : St} {s : Shared} (ok : Ok q X c z W) (Mt : ∀ k f, P.mth k m = some f → MthZ X c z P cl k m f) (hm : c.an m = ("__eq__" : Str)) (I2 : Inv X pins τ H s) (rx : RelV xv u) (ry : RelV yv v)
    (m2 : MR c w M H) (r1 : R c w x xv) (r2 : R c w y yv) (h2 : Sat c z (fun cl d H' => W cl d τ H') w M H (eqmR P cl m x y M) Q) : wpAny (model X.prog X.w) X.A (compareOp .NotEq u v) (EP X pins τ fun z H' => ∃ t, z = .bl (!t) ∧ Q (.bl t) H') X.xe s := by
  obtain ⟨k, f, g, a, b, ex, ey, fs, gs, rfl, rfl, hA, hB, N, c2, F, hc⟩ := eqm_of Mt m2 r1 r2 h2
  cases rx
  cases ry
  obtain ⟨mA, J, _⟩ := ins_get I2.hok hA
  obtain ⟨mB, J', _⟩ := ins_get I2.hok hB
  obtain ⟨od, J, _⟩ := J.look
  obtain ⟨od', J', _⟩ := J'.look
  have hat := c2.at_
  rw [hm] at hat
  show wpAny (model X.prog X.w) X.A (richCompare .NotEq (.ref a) (.ref b)) _ X.xe s
  refine ne_K (by have := ok.hu; omega) I2.kIn J J'.type (N.ne hm) hat c2.fn ?_
  refine wpAny_mono (run_zA (A := X.A.in1) rfl (fun k r => r.in1) (us := [.ref a, .ref b]) (vs := [.ref a, .ref b]) (ds := [x, y]) F ok.tk I2 (.cons rfl (.cons rfl .nil)) m2 ⟨_, _, rfl, .inl r1, _, _, rfl, .inl r2, rfl⟩ rfl hc) (fun v s3 hv => ?_) fun _ _ e => e
  obtain ⟨v', H3, I3, rv, t, rfl, hq⟩ := hv
  cases rv
  exact ⟨t, rfl, .bl (!t), H3, I3, rfl, t, rfl, hq⟩
/-- what is behind the operands, carried on -/
theorem sat_eqm {m : Nat} {x y : D} {w : Wd} {M : Sto} {H : Hp} {E : XK} {Q : VK} {f : D → Sto → Res} {g : Bool → Bool} (hf : ∀ t M, f (.bl t) M = .ok (.bl (g t)) M) (h : Sat c z E w M H ((eqmR P cl m x y M).bind f) Q) :
    Sat c z E w M H (eqmR P cl m x y M) (fun v H' => ∃ t, v = .bl t ∧ Q (.bl (g t)) H') := by
  cases e : eqmR P cl m x y M with
  | ok d M3 =>
    obtain ⟨t, rfl⟩ := eqmR_bl e
    rw [e] at h
    have h : Sat c z E w M H (f (.bl t) M3) Q := h
    rw [hf] at h
    intro w' H' v kk mm rr
    cases rr
    exact ⟨t, rfl, (Sat.step h kk).here mm rfl⟩
  | exc k d M3 => rw [e] at h; exact h
  | bad => rw [e] at h; exact h
section
variable {m : Nat} {a b : E} {a' b' : PySem.Expr} {pos : Pos}
/-- the two operands -/
theorem eqm_two {m : Nat} {a b : E} {τ : St} {H : Hp} {f : D → Sto → Res} {g : Bool → Bool} {Q : VK} {ev : Ev} (hf : ∀ t M, f (.bl t) M = .ok (.bl (g t)) M) (he : ∀ σ M, ev σ M = (evE P cl (.eqm m a b) σ M).bind f) (h : tE c z W ev τ H Q) :
    tE c z W (evE P cl a) τ H fun u H1 => tE c z W (evE P cl b) τ H1 fun v H2 => ∃ w2 M2 dx dy, MR c w2 M2 H2 ∧ R c w2 dx u ∧ R c w2 dy v ∧ Sat c z (fun cl d H' => W cl d τ H') w2 M2 H2 (eqmR P cl m dx dy M2) (fun v H' => ∃ t, v = .bl t ∧ Q (.bl (g t)) H') := by
  obtain ⟨w, σ, M, st, h⟩ := h
  rw [he, evE, bind_assoc] at h
  refine tE_bind st h fun w1 M1 H1 x v k1 s1 r1 h1 => ?_
  rw [bind_assoc] at h1
  refine tE_bind s1 h1 fun w2 M2 H2 y u k2 s2 r2 h2 => ?_
  exact ⟨w2, M2, x, y, s2.m, R.le k2.le _ _ r1, r2, sat_eqm hf h2⟩
theorem bind_self (r : Res) : r.bind (fun d M => .ok d M) = r := by cases r <;> rfl
theorem e_eqm (ok : Ok q X c z W) (Mt : ∀ k f, P.mth k m = some f → MthZ X c z P cl k m f) (hm : c.an m = ("__eq__" : Str)) (ha : PE X a' (tE c z W (evE P cl a))) (hb : PE X b' (tE c z W (evE P cl b))) :
    PE X (.Compare a' [.Eq] [b'] pos) (tE c z W (evE P cl (.eqm m a b))) := by
  refine ⟨fun pins s τ H Q I h => ?_⟩
  refine wpAny_Compare1 (binT ha hb I (eqm_two (m := m) (a := a) (b := b) (f := fun d M => .ok d M) (g := id) (fun _ _ => rfl) (fun σ M => (bind_self _).symm) h) fun v u s2 x y H2 I2 rx ry ⟨w2, M2, dx, dy, m2, r1, r2, h2⟩ => ?_) (nomark _)
  refine wpAny_mono (cmpE ok Mt hm I2 rx ry m2 r1 r2 h2) (fun v s3 hv => ?_) fun _ _ e => e
  obtain ⟨v', H3, I3, rv, t, rfl, t', e, hq⟩ := hv
  cases e
  exact ⟨.bl t, H3, I3, rv, hq⟩
theorem nem_not (P : Prg) (cl : Call) (m : Nat) (a b : E) : evE P cl (.nem m a b) = evE P cl (.not_ (.eqm m a b)) := by
  funext σ M; rw [evE, evE, evE]
theorem e_nem (ok : Ok q X c z W) (Mt : ∀ k f, P.mth k m = some f → MthZ X c z P cl k m f) (hm : c.an m = ("__eq__" : Str)) (ha : PE X a' (tE c z W (evE P cl a))) (hb : PE X b' (tE c z W (evE P cl b))) :
    PE X (.Compare a' [.NotEq] [b'] pos) (tE c z W (evE P cl (.nem m a b))) := by
  rw [nem_not]
  refine ⟨fun pins s τ H Q I h => ?_⟩
  refine wpAny_Compare1 (binT ha hb I (eqm_two (m := m) (a := a) (b := b) (f := fun x M1 => (tru M1 x).elim .bad fun b => .ok (.bl (!b)) M1) (g := not) (fun _ _ => rfl) (fun σ M => by rw [evE]) h) fun v u s2 x y H2 I2 rx ry ⟨w2, M2, dx, dy, m2, r1, r2, h2⟩ => ?_) (nomark _)
  refine wpAny_mono (cmpN ok Mt hm I2 rx ry m2 r1 r2 h2) (fun v s3 hv => ?_) fun _ _ e => e
  obtain ⟨v', H3, I3, rv, t, rfl, t', e, hq⟩ := hv
  cases e
  exact ⟨.bl (!t), H3, I3, rv, hq⟩
theorem t_eqm (ok : Ok q X c z W) (Mt : ∀ k f, P.mth k m = some f → MthZ X c z P cl k m f) (hm : c.an m = ("__eq__" : Str)) (ha : PE X a' (tE c z W (evE P cl a))) (hb : PE X b' (tE c z W (evE P cl b))) :
    PT X (.Compare a' [.Eq] [b'] pos) (tTr c z W (evE P cl (.eqm m a b))) := by
  refine ⟨fun pins s τ H Q I h => ?_⟩
  refine wpAny_isTrue_Compare1 (binT ha hb I (eqm_two (m := m) (a := a) (b := b) (f := fun x M1 => (tru M1 x).elim .bad fun b => .ok (.bl b) M1) (g := id) (fun _ _ => rfl) (fun σ M => rfl) h) fun v u s2 x y H2 I2 rx ry ⟨w2, M2, dx, dy, m2, r1, r2, h2⟩ => ?_) (nomark _)
  refine wpAny_mono (cmpE ok Mt hm I2 rx ry m2 r1 r2 h2) (fun v s3 hv => ?_) fun _ _ e => e
  obtain ⟨v', H3, I3, rv, t, rfl, t', e, b, e2, hq⟩ := hv
  cases e
  cases e2
  cases rv
  exact wpAny_truthy_bool ⟨H3, I3, hq⟩
theorem t_nem (ok : Ok q X c z W) (Mt : ∀ k f, P.mth k m = some f → MthZ X c z P cl k m f) (hm : c.an m = ("__eq__" : Str)) (ha : PE X a' (tE c z W (evE P cl a))) (hb : PE X b' (tE c z W (evE P cl b))) :
    PT X (.Compare a' [.NotEq] [b'] pos) (tTr c z W (evE P cl (.nem m a b))) := by
  rw [nem_not]
  refine ⟨fun pins s τ H Q I h => ?_⟩
  refine wpAny_isTrue_Compare1 (binT ha hb I (eqm_two (m := m) (a := a) (b := b) (f := fun x M1 => ((tru M1 x).elim Res.bad fun b => Res.ok (.bl (!b)) M1).bind fun x M1 => (tru M1 x).elim .bad fun b => .ok (.bl b) M1) (g := not) (fun _ _ => rfl) (fun σ M => by unfold evT; rw [evE, bind_assoc]) h) fun v u s2 x y H2 I2 rx ry ⟨w2, M2, dx, dy, m2, r1, r2, h2⟩ => ?_) (nomark _)
  refine wpAny_mono (cmpN ok Mt hm I2 rx ry m2 r1 r2 h2) (fun v s3 hv => ?_) fun _ _ e => e
  obtain ⟨v', H3, I3, rv, t, rfl, t', e, b, e2, hq⟩ := hv
  cases e
  cases e2
  cases rv
  exact wpAny_truthy_bool ⟨H3, I3, hq⟩
end
end
end Z


set_option Elab.async false
set_option linter.all false
set_option autoImplicit false
set_option maxRecDepth 100000
set_option maxHeartbeats 4000000
namespace Z
open PySem L2

section
variable {q : Bool} {X : Cx} {c : Cz} {z : Ez} {W : WX} {P : Prg} {cl : Call}
/-! ### a new list of the store -/
theorem e_lstR {as : Es} {as' : List PySem.Expr} {pos : Pos} (hn : noB as = true) (ha : PA X as' (tF c z W (flg as) (evEs P cl as))) : PE X (.List as' pos) (tE c z W (evE P cl (.lstR as))) := PE.imp (pe_lst ha) fun τ H Q ⟨w, σ, M, s, h⟩ => by
  rw [evE] at h
  refine tF_bind s h fun w1 M1 H1 ds vs k1 s1 r1 h1 => ?_
  have r2 := Rf.rs (flg_noB hn) r1
  by_cases hl : ds.length ≤ LIM
  · rw [if_pos hl] at h1
    refine ⟨by rw [r2.length, LIM_eq]; exact hl, fun p hp => ?_⟩
    have th : ∀ a, upd H1 p (.lst vs) a = none → H1 a = none := fun a h => upd_none h
    exact h1 (w1.new p) _ (.ref p) (keep_new (mo := .lst ds) s1.m hp (upd_keeps hp) th) (s1.m.new hp (upd_keeps hp) upd_same ⟨vs, rfl, r2⟩) ⟨by rw [s1.m.nx, new_self], by rw [s1.m.nx]; exact Nat.lt_succ_self _⟩
  · rw [if_neg hl] at h1; exact h1.elim

/-! ### a new instance -/
theorem run_makeS {CX : CXT} {k : Nat} {C f : Addr} {fd : FuncData} {ps : List Str} {sp : Sp} {dvs : List V} {dsv : List Value} {E : XK} {pins : List (Addr × Obj)} {σ : St} {H : Hp} {s : Shared} {Q : VK} {us : List Value} {vs : List V} (M : Mk X.K C f) (F : FnOk X.prog X.w X.K X.mg X.base CX k f fd ps sp) (hr : Room (k + 1) X.A)
    (hb : Binds X.K fd ps dsv) (hd : Vals dvs dsv) (hx : PassesAt CX X σ E) (I : Inv X pins σ H s) (r : Vals vs us)
    (h : ∀ x dx, H x = none → H dx = none → dx ≠ x → sp (.ref x :: (vs ++ dvs)) (upd (upd H dx (.own x)) x (.ins C dx [])) (fun v H2 => v = .non ∧ Q (.ref x) H2) E) :
    wpAny (model X.prog X.w) X.A (call (.ref C) us) (EP X pins σ Q) X.xe s := by
  have hq := h (s.heap.objs.size + 1) s.heap.objs.size (I.hok.fresh (Nat.le_succ _)) (I.hok.fresh (Nat.le_refl _)) (Nat.ne_of_lt (Nat.lt_succ_self _))
  have I2 := Inv.made (C := C) I
  have r2 : Vals (V.ref (s.heap.objs.size + 1) :: (vs ++ dvs)) (Value.ref (s.heap.objs.size + 1) :: (us ++ dsv)) := .cons rfl (r.append hd)
  have hl : (Value.ref (s.heap.objs.size + 1) :: us ++ dsv).length = ps.length := by
    have e := r2.length
    rw [F.len _ _ _ _ hq] at e
    exact e.symm
  refine wpAny_call (make_map (f := f) I.kIn M.makes M.init (beq_iff_eq.mp M.fn) (codeAny_mono (F.run _ X.stack _ _ ⟨Value.ref (s.heap.objs.size + 1) :: us, []⟩ (Value.ref (s.heap.objs.size + 1) :: (us ++ dsv)) _ _ E (hr.make C us [])
    (I2.env0.make C us []) (hb _ (Value.ref (s.heap.objs.size + 1) :: us) I2.kIn hl) r2 hq) fun r s' hq' => ?_))
  cases r with
  | error e => exact hx pins _ _ e s' I2 hq'
  | ok fl =>
    cases fl with
    | ret u =>
      obtain ⟨v, H', I3, rv, ev, q3⟩ := I2.after hq'
      subst ev
      exact ⟨rv, ⟨V.ref (s.heap.objs.size + 1), H', I3, rfl, q3⟩⟩
    | next => exact False.elim hq'
    | brk => exact False.elim hq'
    | cont => exact False.elim hq'
/-- class k stands at ca k, its __init__ is the def P.ini k -/
structure MkZ (X : Cx) (c : Cz) (z : Ez) (P : Prg) (cl : Call) (k : Nat) : Prop where
  ex : ∃ g, Mk X.K (c.ca k) g ∧ FnZ X c z P cl (P.ini k) g
theorem del_at {M : Sto} {n m : Nat} {mo : MO} (h : (M.del n).m m = some mo) : m ≠ n ∧ M.m m = some mo := by
  have h : (if m = n then none else M.m m) = some mo := h
  by_cases e : m = n
  · rw [if_pos e] at h; cases h
  · rw [if_neg e] at h; exact ⟨e, h⟩
/-- an object of the store will never change again -/
theorem freeze {w : Wd} {M : Sto} {H : Hp} {n : Nat} {mo : MO} {o : HO} (m : MR c w M H) (hm : M.m n = some mo) (ho : H (w.rh n) = some o) : Keep w M H (w.add (w.rh n) o) (M.del n) H ∧ MR c (w.add (w.rh n) o) (M.del n) H := by
  obtain ⟨h1, h2, u, h3, h4⟩ := m.st n mo hm
  refine ⟨⟨.add h2, fun a u h _ => h, fun a u e k => ?_, fun a h => ?_, fun a h => h⟩, ⟨m.nx, fun a u e => ?_, fun n' mo' h => ?_, fun n1 n2 mo1 mo2 e1 e2 e => m.inj n1 n2 mo1 mo2 (del_at e1).2 (del_at e2).2 e⟩⟩
  · have e' : upd w.F (w.rh n) o a = some u := e
    by_cases h : a = w.rh n
    · exact .inr ⟨n, mo, hm, h.symm⟩
    · rw [upd_ne h, k] at e'; cases e'
  · obtain ⟨n', mo', e1, e2⟩ := h
    exact .inr ⟨n', mo', (del_at e1).2, e2⟩
  · have e' : upd w.F (w.rh n) o a = some u := e
    by_cases h : a = w.rh n
    · subst h; rw [upd_same] at e'; cases e'; exact ho
    · rw [upd_ne h] at e'; exact m.sub a u e'
  · obtain ⟨hn, h'⟩ := del_at h
    obtain ⟨g1, g2, u', g3, g4⟩ := m.st n' mo' h'
    have ne : w.rh n' ≠ w.rh n := fun e => hn (m.inj n' n mo' mo h' hm e)
    exact ⟨g1, by show upd w.F (w.rh n) o (w.rh n') = none; rw [upd_ne ne]; exact g2, u', g3, g4.le (.add h2)⟩
theorem mk_core {k : Nat} (Mk0 : MkZ X c z P cl k) (tk : L2N.Takes X W) {pins : List (Addr × Obj)} {τ : St} {H : Hp} {s : Shared} {Q : VK} {us : List Value} {vs : List V} {ds : List D} {w : Wd} {M : Sto} {fl : List Bool} (I : Inv X pins τ H s) (r : Vals vs us)
    (m : MR c w M H) (rf : Rf c w M H fl ds vs) (hf : leF fl (P.brw (P.ini k)).tail = true) (h : Sat c z (fun cl d H' => W cl d τ H') w M H (mkObj P cl k ds M) Q) :
    wpAny (model X.prog X.w) X.A (call (.ref (c.ca k)) us) (EP X pins τ Q) X.xe s := by
  obtain ⟨g, M1, F⟩ := Mk0.ex
  obtain ⟨kk, fd, ps, F1, hr, hp, hd⟩ := F.ex
  unfold mkObj at h
  have hl : (D.ref M.nx :: (ds ++ P.dfl (P.ini k) (ds.length + 1))).length = P.ar (P.ini k) := by
    by_cases e : (D.ref M.nx :: (ds ++ P.dfl (P.ini k) (ds.length + 1))).length = P.ar (P.ini k)
    · exact e
    · have : callA P cl (P.ini k) (.ref M.nx :: (ds ++ P.dfl (P.ini k) (ds.length + 1))) (M.new (.ins k [] [])) = .bad := by unfold callA; rw [if_neg e]
      rw [this] at h; exact h.elim
  have hl' : (ds.length + 1) + (P.dfl (P.ini k) (ds.length + 1)).length = P.ar (P.ini k) := by
    rw [List.length_cons, List.length_append] at hl; omega
  obtain ⟨dv, dvs, hb, rd, rs⟩ := hd _ hl'
  refine run_makeS (E := WE W τ) M1 F1 hr hb rd (L2N.passAt tk τ) I r fun x dx hx hdx ne => ?_
  have hc : callA P cl (P.ini k) (.ref M.nx :: (ds ++ P.dfl (P.ini k) (ds.length + 1))) (M.new (.ins k [] [])) = cl (P.ini k) (.ref M.nx :: (ds ++ P.dfl (P.ini k) (ds.length + 1))) (M.new (.ins k [] [])) := by unfold callA; rw [if_pos hl]
  rw [hc] at h
  have hs : ∀ a u, H a = some u → upd (upd H dx (.own x)) x (.ins (c.ca k) dx []) a = some u := fun a u e => by
    rw [upd_ne (ne_of_none e hx), upd_ne (ne_of_none e hdx)]; exact e
  have th : ∀ a, upd (upd H dx (.own x)) x (.ins (c.ca k) dx []) a = none → H a = none := fun a h => upd_none (upd_none h)
  have kp := keep_new (mo := .ins k [] []) m hx hs th
  have m' := m.new (mo := .ins k [] []) hx hs upd_same ⟨dx, [], rfl, rfl, rfl⟩
  refine ⟨w.new x, M.new (.ins k [] []), _, m', ?_, hl, ?_⟩
  · refine ⟨_, _, rfl, .inl ⟨by rw [m.nx, new_self], by rw [m.nx]; exact Nat.lt_succ_self _⟩, ?_⟩
    exact ((rf.mono hf).keep kp).app (rs _)
  · generalize cl (P.ini k) (.ref M.nx :: (ds ++ P.dfl (P.ini k) (ds.length + 1))) (M.new (.ins k [] [])) = res at h
    cases res with
    | bad => exact h.elim
    | exc a d M2 => exact ExcAt.step h kp
    | ok d M2 =>
      intro w2 H2 v k2 m2 rv
      cases d with
      | non =>
        cases rv
        refine ⟨rfl, ?_⟩
        have hn : M.nx < (w.new x).nx := by rw [m.nx]; exact Nat.lt_succ_self _
        have hx2 : w2.rh M.nx = x := by rw [k2.le.rh _ hn, m.nx, new_self]
        have h : Sat c z (fun cl d H' => W cl d τ H') w M H (if P.frz k then (match M2.m M.nx with
          | some (.ins k' ns vs) => .ok (.obj k' ns vs) (M2.del M.nx)
          | _ => .bad) else .ok (.ref M.nx) M2) Q := h
        by_cases hz : P.frz k = true
        · rw [if_pos hz] at h
          cases e : M2.m M.nx with
          | none => rw [e] at h; exact h.elim
          | some mo =>
            rw [e] at h
            cases mo with
            | ins k' ns vs' =>
              obtain ⟨g1, g2, o, g3, dx', fs, eo, e1, e2⟩ := m2.st _ _ e
              obtain ⟨k3, m3⟩ := freeze m2 e g3
              rw [hx2] at k3 m3
              refine h _ H2 _ ((kp.trans k2).trans k3) m3 ⟨x, dx', fs, rfl, ?_, e1, Rs.le k3.le _ _ e2⟩
              show upd w2.F x o x = _
              rw [upd_same, eo]
            | _ => exact h.elim
        · rw [if_neg hz] at h
          exact h w2 H2 _ (kp.trans k2) m2 ⟨by rw [hx2], Nat.lt_of_lt_of_le hn k2.le.nx⟩
      | _ => exact h.elim
theorem e_mk {k : Nat} {x : Str} {as : Es} {e' : PySem.Expr} {as' : List PySem.Expr} {p pos : Pos} (ok : Ok q X c z W) (M0 : MkZ X c z P cl k) (hm : X.mg x = some (.ref (c.ca k))) (hg : glB X.env.scope.names x = true) (hp : plainB e' = true) (hp2 : as'.all plainB = true)
    (hf : leF (flg as) (P.brw (P.ini k)).tail = true) (ha : PA X (e' :: as') (tF c z W (flg as) (evEs P cl as))) : PE X (.Call (.Name x p) (e' :: as') [] pos) (tE c z W (evE P cl (.mk k as))) := by
  obtain ⟨g1, g2, g3⟩ := glB_ok hg
  refine ⟨fun pins s τ H Q I h => ?_⟩
  obtain ⟨w, σ, M, st, h⟩ := h
  rw [evE] at h
  have kp : PySem.W.keepIn X.K (.ref (c.ca k)) = true := M0.ex.elim fun g q => q.1.kp
  refine wpAny_Call_Name_kw (ld_glob I g1 hm ?_ g2)
  refine PySem.W.callWith_K (h₀ := X.base) I.ok.mod.kin kp (thn (ha.run pos pins s τ H (fun vs H1 => ∃ w1 M1 ds, MR c w1 M1 H1 ∧ Rf c w1 M1 H1 (flg as) ds vs ∧ Sat c z (fun cl d H' => W cl d τ H') w1 M1 H1 (mkObj P cl k ds M1) Q) I ?_) fun us s1 ⟨vs, H1, I1, r, w1, M1, ds, m1, rf, q⟩ => ⟨I1.kIn, ?_⟩) (plain_star hp) (nos_any hp2)
  · refine tF_bind st h fun w1 M1 H1 ds vs k1 s1 r1 h1 => ?_
    exact ⟨w1, M1, ds, s1.m, r1, h1⟩
  · exact mk_core M0 ok.tk I1 r m1 rf hf q
theorem e_mk0 {k : Nat} {x : Str} {p pos : Pos} (ok : Ok q X c z W) (M0 : MkZ X c z P cl k) (hm : X.mg x = some (.ref (c.ca k))) (hg : glB X.env.scope.names x = true) : PE X (.Call (.Name x p) [] [] pos) (tE c z W (evE P cl (.mk k .nil))) := by
  obtain ⟨g1, g2, g3⟩ := glB_ok hg
  refine ⟨fun pins s τ H Q I h => ?_⟩
  obtain ⟨w, σ, M, st, h⟩ := h
  rw [evE, evEs] at h
  have kp : PySem.W.keepIn X.K (.ref (c.ca k)) = true := M0.ex.elim fun g q => q.1.kp
  refine wpAny_Call_Name_kw (ld_glob I g1 hm ?_ g2)
  exact PySem.W.callWith_K0 I.kIn kp (mk_core (us := []) (vs := []) (ds := []) (fl := []) M0 ok.tk I .nil st.m rfl rfl h)

/-! ### keywords -/
structure KqZ (X : Cx) (c : Cz) (z : Ez) (P : Prg) (cl : Call) (q n : Nat) (ks : List Str) (fa : Addr) : Prop where
  ex : ∃ (k : Nat) (fd : FuncData) (ps : List Str) (g : List Value → List Value → List Value) (gV : List V → List V → List V) (mv : List V), FnOk X.prog X.w X.K X.mg X.base (L2N.CX X.prog X.w) k fa fd ps (spOf c z P cl (P.kq q).1) ∧ Room k X.A ∧
    KBn X.K fd ps n ks g gV ∧ (∀ vs zs, gV vs zs = vs ++ (mv ++ zs)) ∧ ∀ w : Wd, Rs c w (P.kq q).2 mv
  kp : PySem.W.keepIn X.K (.ref fa) = true
/-- keywords' values, as arguments -/
inductive KwZ (X : Cx) (c : Cz) (z : Ez) (W : WX) (P : Prg) (cl : Call) : Es → List Keyword → List Str → Prop where
  | nil : KwZ X c z W P cl .nil [] []
  | cons {e : E} {es : Es} {e' : PySem.Expr} {nm : Str} {kp : Pos} {kws : List Keyword} {ks : List Str} (h : PE X e' (tE c z W (evE P cl e))) (t : KwZ X c z W P cl es kws ks) : KwZ X c z W P cl (.cons e es) (⟨some nm, e', kp⟩ :: kws) (nm :: ks)
theorem KwZ.pk {es : Es} {kws : List Keyword} {ks : List Str} (h : KwZ X c z W P cl es kws ks) : PK X kws (tF c z W (flg es) (evEs P cl es)) := by
  induction h with
  | nil => exact ⟨fun pos pins s τ H Q I ⟨w, σ, M, st, h⟩ => pk_nil.run pos pins s τ H Q I (by rw [evEs] at h; exact SatF.rs h st.m rfl)⟩
  | cons ha _ ih =>
    refine ⟨fun pos pins s τ H Q I ⟨w, σ, M, st, h⟩ => (pk_cons ha ih).run pos pins s τ H Q I ?_⟩
    rw [evEs] at h
    refine tE_binds st h fun w1 M1 H1 d v k1 s1 r1 h1 => ?_
    refine tF_binds s1 h1 fun w2 M2 H2 ds vs k2 s2 r2 h2 => ?_
    exact SatF.rs h2 s2.m ⟨v, vs, rfl, .inl (R.le k2.le _ _ r1), r2⟩
theorem KwZ.nob {es : Es} {kws : List Keyword} {ks : List Str} (h : KwZ X c z W P cl es kws ks) : noB es = true := by
  induction h with
  | nil => rfl
  | cons _ _ ih => exact ih
theorem KwZ.len {es : Es} {kws : List Keyword} {ks : List Str} (h : KwZ X c z W P cl es kws ks) {σ : List SV} {M : Sto} {ds : List D} {M' : Sto} : evEs P cl es σ M = .ok ds M' → ds.length = ks.length := by
  induction h generalizing M ds M' with
  | nil => intro e; rw [evEs] at e; cases e; rfl
  | @cons e es e' nm kp kws ks ha _ ih =>
    intro q
    rw [evEs] at q
    cases e1 : evE P cl e σ M with
    | ok d M1 =>
      rw [e1] at q
      simp only [Res.binds] at q
      cases e2 : evEs P cl es σ M1 with
      | ok ds2 M2 => rw [e2] at q; cases q; rw [List.length_cons, List.length_cons, ih e2]
      | exc k d M2 => rw [e2] at q; cases q
      | bad => rw [e2] at q; cases q
    | exc k d M1 => rw [e1] at q; cases q
    | bad => rw [e1] at q; cases q
theorem kws_all {pos : Pos} {es : Es} {kws : List Keyword} {ks : List Str} (h : KwZ X c z W P cl es kws ks) : (backToKw pos (keywordEach kws X.env)).all (·.1.isSome) = true ∧ (backToKw pos (keywordEach kws X.env)).filterMap (·.1) = ks ∧ (backToKw pos (keywordEach kws X.env)).any (·.1.isNone) = false := by
  induction h with
  | nil => exact ⟨rfl, rfl, rfl⟩
  | @cons e es e' nm kp kws ks ha _ ih =>
    obtain ⟨i1, i2, i3⟩ := ih
    refine ⟨?_, ?_, ?_⟩
    · show (true && (backToKw pos (keywordEach kws X.env)).all (·.1.isSome)) = true
      rw [i1]; rfl
    · show nm :: (backToKw pos (keywordEach kws X.env)).filterMap (·.1) = nm :: ks
      rw [i2]
    · show (false || (backToKw pos (keywordEach kws X.env)).any (·.1.isNone)) = false
      rw [i3]; rfl
/-- how many values an argument list has -/
def cnt : Es → Nat
  | .nil => 0
  | .cons _ es => cnt es + 1
  | .conB _ es => cnt es + 1
  | .star _ es => cnt es
def noS : Es → Bool
  | .nil => true
  | .cons _ es => noS es
  | .conB _ es => noS es
  | .star _ _ => false
theorem cnt_len : ∀ {es : Es} {σ : List SV} {M : Sto} {ds : List D} {M' : Sto}, noS es = true → evEs P cl es σ M = .ok ds M' → ds.length = cnt es
  | .nil, _, _, _, _, _, q => by rw [evEs] at q; cases q; rfl
  | .star _ _, _, _, _, _, h, _ => by cases h
  | .cons e es, σ, M, ds, M', h, q | .conB e es, σ, M, ds, M', h, q => by
    rw [evEs] at q
    cases e1 : evE P cl e σ M with
    | ok d M1 =>
      rw [e1] at q
      simp only [Res.binds] at q
      cases e2 : evEs P cl es σ M1 with
      | ok ds2 M2 => rw [e2] at q; cases q; rw [List.length_cons, cnt_len (es := es) h e2]; rfl
      | exc k d M2 => rw [e2] at q; cases q
      | bad => rw [e2] at q; cases q
    | exc k d M1 => rw [e1] at q; cases q
    | bad => rw [e1] at q; cases q
theorem tF_bindL {fl : List Bool} {ev : Evs} {f : List D → Sto → Res} {Q : VK} {w : Wd} {σ : List SV} {M : Sto} {τ : St} {H : Hp} {n : Nat} (hn : ∀ ds M', ev σ M = .ok ds M' → ds.length = n) (s : SR c w σ M τ H) (h : Sat c z (fun cl d H' => W cl d τ H') w M H ((ev σ M).bind f) Q) {K : List V → Hp → Prop}
    (k : ∀ w1 M1 H1 ds vs, ds.length = n → Keep w M H w1 M1 H1 → SR c w1 σ M1 τ H1 → Rf c w1 M1 H1 fl ds vs → Sat c z (fun cl d H' => W cl d τ H') w1 M1 H1 (f ds M1) Q → K vs H1) : tF c z W fl ev τ H K := by
  refine ⟨w, σ, M, s, ?_⟩
  cases e : ev σ M with
  | ok d M1 =>
    rw [e] at h
    exact fun w1 H1 v k1 m1 r1 => k w1 M1 H1 d v (hn d M1 e) k1 (s.keep k1 m1) r1 (Sat.step h k1)
  | exc a d M1 => rw [e] at h; exact h
  | bad => rw [e] at h; exact h
theorem e_callk {kq : Nat} {fa : Addr} {x : Str} {as zs : Es} {e' : PySem.Expr} {as' : List PySem.Expr} {kws : List Keyword} {ks : List Str} {p pos : Pos} (ok : Ok q X c z W) (F : KqZ X c z P cl kq (cnt as) ks fa) (hm : X.mg x = some (.ref fa)) (hg : glB X.env.scope.names x = true) (hp : plainB e' = true) (hp2 : as'.all plainB = true)
    (hs : noS as = true) (hf : leF (flg as) (P.brw (P.kq kq).1) = true) (ha : PA X (e' :: as') (tF c z W (flg as) (evEs P cl as))) (hk : KwZ X c z W P cl zs kws ks) : PE X (.Call (.Name x p) (e' :: as') kws pos) (tE c z W (evE P cl (.callk kq as zs))) := by
  obtain ⟨g1, g2, g3⟩ := glB_ok hg
  obtain ⟨k, fd, ps, g, gV, mv, F1, hr, hb, hgv, hmv⟩ := F.ex
  obtain ⟨k1, k2, k3⟩ := kws_all (pos := pos) hk
  refine ⟨fun pins s τ H Q I h => ?_⟩
  obtain ⟨w, σ, M, st, h⟩ := h
  rw [evE] at h
  refine wpAny_Call_Name_kw (ld_glob I g1 hm ?_ g2)
  have hpl : ((backTo pos (starEach (e' :: as') X.env)).any (·.1) || (backToKw pos (keywordEach kws X.env)).any (·.1.isNone)) = false := by
    rw [k3, nos_any (by simp only [List.all_cons, Bool.and_eq_true]; exact ⟨hp, hp2⟩)]; rfl
  refine PySem.W.callWith_KW (h₀ := X.base) I.ok.mod.kin F.kp k1 (thn (ha.run pos pins s τ H (fun vs H1 => ∃ w1 M1 ds, ds.length = cnt as ∧ SR c w1 σ M1 τ H1 ∧ Rf c w1 M1 H1 (flg as) ds vs ∧
    Sat c z (fun cl d H' => W cl d τ H') w1 M1 H1 ((evEs P cl zs σ M1).bind fun es M2 => callA P cl (P.kq kq).1 (ds ++ ((P.kq kq).2 ++ es)) M2) Q) I ?_) fun us s1 ⟨vs, H1, I1, r, w1, M1, ds, l1, st1, rf, q1⟩ => ?_) hpl (plain_star hp)
  · refine tF_bindL (fun ds M' e => cnt_len hs e) st h fun w1 M1 H1 ds vs hl k1 s1 r1 h1 => ?_
    exact ⟨w1, M1, ds, hl, s1, r1, h1⟩
  · refine thn (hk.pk.run pos pins s1 τ H1 (fun zv H2 => ∃ w2 M2 es, es.length = ks.length ∧ MR c w2 M2 H2 ∧ Rf c w2 M2 H2 (flg as) ds vs ∧ Rs c w2 es zv ∧ Sat c z (fun cl d H' => W cl d τ H') w2 M2 H2 (callA P cl (P.kq kq).1 (ds ++ ((P.kq kq).2 ++ es)) M2) Q) I1 ?_)
      fun ws s2 ⟨zv, H2, I2, rz, w2, M2, es, l2, m2, rf2, rs2, q2⟩ => ⟨I2.kIn, ?_⟩
    · refine tF_bindL (fun ds M' e => hk.len e) st1 q1 fun w2 M2 H2 es zv hl k2 s2 r2 h2 => ?_
      exact ⟨w2, M2, es, hl, s2.m, rf.keep k2, Rf.rs (flg_noB hk.nob) r2, h2⟩
    · rw [k2]
      obtain ⟨hl, q2⟩ := ar_sat q2
      have r2 := hb.rel r rz
      refine wpAny_call (codeAny_mono (F1.run X.A X.stack s2 H2 ⟨us, ks.zip ws⟩ (g us ws) (gV vs zv) Q (WE W τ) hr I2.env0 (hb.to s2 us ws I2.kIn (by rw [← r.length, rf2.length, l1]) (by rw [← rz.length, rs2.length, l2])) r2 ?_) fun r s' hq => ?_)
      · rw [hgv]
        exact ⟨w2, M2, _, m2, (rf2.mono hf).app ((hmv w2).app rs2), hl, q2⟩
      · cases r with
        | error e => exact L2N.passAt ok.tk τ pins H2 s2 e s' I2 hq
        | ok fl =>
          cases fl with
          | ret u => exact I2.after hq
          | next => exact False.elim hq
          | brk => exact False.elim hq
          | cont => exact False.elim hq
end
end Z


set_option Elab.async false
set_option linter.all false
set_option autoImplicit false
set_option maxRecDepth 100000
set_option maxHeartbeats 4000000
namespace Z
open PySem L2

section
variable {q : Bool} {X : Cx} {c : Cz} {z : Ez} {W : WX} {P : Prg} {cl : Call}
def rGet (c : Cz) (z : Ez) (E : XK) (b : Bm) : V → List V → Hp → VK → Prop := fun x xs H Q => ∃ w M d ds, MR c w M H ∧ RB c w M H d x ∧ Rs c w ds xs ∧ Sat c z E w M H (opBm b d ds M) Q
theorem m_get2 {E : XK} (hu : X.A.units + 65 < cLine) : MtR X "dict.get" (rGet c z E .get2) := by
  intro pins s σ H x xs v us Q I rx r h
  obtain ⟨w, M, d, ds, m, rd, rb, sat⟩ := h
  match ds, rb, sat with
  | [], _, sat => cases d <;> exact sat.elim
  | [_], _, sat => cases d <;> exact sat.elim
  | _ :: _ :: _ :: _, _, sat => cases d <;> exact sat.elim
  | [y, e], ⟨y', _, e1, ry, e', _, e2, re, e3⟩, sat =>
    cases e3; subst e2; subst e1
    have sat : Sat c z E w M H (opGet d y e M) Q := by cases d <;> exact sat
    have rv := RV.look m rd
    unfold opGet at sat
    generalize look M d = dd at rv sat
    cases dd with
    | dct ks vs =>
      obtain ⟨p, kvs, rfl, hp, e1, e2, e3⟩ := rv
      cases (show v = Value.ref p from rx)
      have sat : Sat c z E w M H ((dkOf y).elim .bad fun k => .ok (((ks.zip vs).lookup k).getD e) M) Q := sat
      obtain ⟨k, hk, sat⟩ := match_sat sat
      cases r with
      | cons r1 r2 =>
        cases r2 with
        | cons r3 r4 =>
          cases r4
          have hy : y' = kV (kK k) := dkOf_v (H := H) hk (by cases y <;> first | exact ry | cases hk)
          subst hy
          refine d_get2 (by omega) I (DGet.k hp) r1 r3 fun w' s' I' r' => ⟨_, H, I', r', ?_⟩
          have q := valV_lookup k e1 e3
          cases hl : (ks.zip vs).lookup k with
          | some d0 =>
            rw [hl] at q sat
            obtain ⟨v0, q1, q2⟩ := q
            rw [q1]
            exact Sat.here sat m q2
          | none =>
            rw [hl] at q sat
            rw [show valV kvs (kK k) = none from q]
            exact Sat.here sat m re
    | _ => exact sat.elim
theorem look_dct {w : Wd} {M : Sto} {H : Hp} {d : D} {v : V} {ks : List DK} {vs : List D} (m : MR c w M H) (r : RB c w M H d v) (h : look M d = .dct ks vs) {K : PySem.W.Frag} : tyV K "dict" v H := by
  have rv := RV.look m r
  rw [h] at rv
  obtain ⟨p, kvs, rfl, hp, _⟩ := rv
  exact .inr (.inr (.inl ⟨rfl, .inl ⟨kvs, hp⟩⟩))
theorem few_ok {e' : PySem.Expr} {as' : List PySem.Expr} {pos : Pos} {env : Env} (hp : plainB e' = true) (hp2 : as'.all plainB = true) (hn : decide ((e' :: as').length < 20) = true) :
    ((backTo pos (starEach (e' :: as') env)).all (fun x => !x.1) && (backToKw pos (keywordEach [] env)).all (fun x => x.1.isSome) && decide ((e' :: as').length + ([] : List Keyword).length + (if ([] : List Keyword).isEmpty then 0 else 1) < 30)) = true := by
  rw [nos_all (by simp only [List.all_cons, Bool.and_eq_true]; exact ⟨hp, hp2⟩)]
  have hn := of_decide_eq_true hn
  show (true && true && decide ((e' :: as').length + 0 + 0 < 30)) = true
  simp only [Bool.true_and, decide_eq_true_eq]; omega
/-- d.get(k, x): d is looked at once more when the arguments are there, so d has to be a dict already -/
theorem e_get2 {o : E} {o' e' : PySem.Expr} {as : Es} {as' : List PySem.Expr} {apos pos : Pos} (ok : Ok q X c z W) (hb : baseB o' = true) (hl : (apos.endLine == pos.line) = true) (hn : decide ((e' :: as').length < 20) = true) (hp : plainB e' = true) (hp2 : as'.all plainB = true)
    (hB : noB as = true) (ho : PE X o' (tB c z W (evE P cl o))) (ha : PA X (e' :: as') (tF c z W (flg as) (evEs P cl as))) : PE X (.Call (.Attribute o' "get" apos) (e' :: as') [] pos) (tE c z W (evE P cl (.bm .get2 o as))) := by
  refine ⟨fun pins s τ H Q I h => ?_⟩
  obtain ⟨w, σ, M, st, h⟩ := h
  rw [evE] at h
  refine (pe_bm PySem.F.plainAttrs_dict PySem.F.slot_dict_get PySem.F.type_dict_get (m_get2 (c := c) (z := z) (E := fun cl d H' => W cl d τ H') ok.hu) ho ha (base_ok hb) (few_ok hp hp2 hn) hl (plain_star hp) (nos_any hp2)).run pins s τ H Q I ?_
  refine tB_bind st h fun w1 M1 H1 x v k1 s1 r1 h1 => ?_
  cases hd : look M1 x with
  | dct ks vs =>
    rw [if_pos (by rw [hd]; rfl)] at h1
    refine ⟨look_dct s1.m r1 hd, ?_⟩
    refine tF_bind s1 h1 fun w2 M2 H2 ds vs k2 s2 r2 h2 => ?_
    exact ⟨w2, M2, x, ds, s2.m, r1.keep k2, Rf.rs (flg_noB hB) r2, h2⟩
  | _ => rw [if_neg (by rw [hd]; simp [isD])] at h1; exact h1.elim
theorem e_split {o : E} {o' e' : PySem.Expr} {as : Es} {as' : List PySem.Expr} {apos pos : Pos} (hb : baseB o' = true) (hl : (apos.endLine == pos.line) = true) (hn : decide ((e' :: as').length < 20) = true) (hp : plainB e' = true) (hp2 : as'.all plainB = true)
    (ho : PE X o' (tB c z W (evE P cl o))) (ha : PA X (e' :: as') (tF c z W (flg as) (evEs P cl as))) : PE X (.Call (.Attribute o' "split" apos) (e' :: as') [] pos) (tE c z W (evE P cl (.bm .split o as))) := by
  refine ⟨fun pins s τ H Q I h => ?_⟩
  obtain ⟨w, σ, M, st, h⟩ := h
  rw [evE] at h
  refine (pe_bm PySem.F.plainAttrs_str PySem.F.slot_str_split PySem.F.type_str_split (m_split (c := c) (z := z) (E := fun cl d H' => W cl d τ H')) ho ha (base_ok hb) (few_ok hp hp2 hn) hl (plain_star hp) (nos_any hp2)).run pins s τ H Q I ?_
  refine tB_bind st h fun w1 M1 H1 x v k1 s1 r1 h1 => ?_
  cases x with
  | str a =>
    obtain ⟨rfl, _⟩ := r1.str
    refine ⟨rfl, ?_⟩
    refine tF_bind s1 h1 fun w2 M2 H2 ds vs k2 s2 r2 h2 => ?_
    exact ⟨w2, M2, _, ds, s2.m, r1.keep k2, r2.all, h2⟩
  | _ => exact h1.elim
theorem e_join {o : E} {o' e' : PySem.Expr} {as : Es} {as' : List PySem.Expr} {apos pos : Pos} (ok : Ok q X c z W) (hb : baseB o' = true) (hl : (apos.endLine == pos.line) = true) (hn : decide ((e' :: as').length < 20) = true) (hp : plainB e' = true) (hp2 : as'.all plainB = true)
    (ho : PE X o' (tB c z W (evE P cl o))) (ha : PA X (e' :: as') (tF c z W (flg as) (evEs P cl as))) : PE X (.Call (.Attribute o' "join" apos) (e' :: as') [] pos) (tE c z W (evE P cl (.bm .join o as))) := by
  refine ⟨fun pins s τ H Q I h => ?_⟩
  obtain ⟨w, σ, M, st, h⟩ := h
  rw [evE] at h
  refine (pe_bm PySem.F.plainAttrs_str PySem.F.slot_str_join PySem.F.type_str_join (m_join (c := c) (z := z) (E := fun cl d H' => W cl d τ H') ok.hK) ho ha (base_ok hb) (few_ok hp hp2 hn) hl (plain_star hp) (nos_any hp2)).run pins s τ H Q I ?_
  refine tB_bind st h fun w1 M1 H1 x v k1 s1 r1 h1 => ?_
  cases x with
  | str a =>
    obtain ⟨rfl, _⟩ := r1.str
    refine ⟨rfl, ?_⟩
    refine tF_bind s1 h1 fun w2 M2 H2 ds vs k2 s2 r2 h2 => ?_
    exact ⟨w2, M2, _, ds, s2.m, r1.keep k2, r2.all, h2⟩
  | _ => exact h1.elim

/-! ### a dict of the module -/
structure KdZ (X : Cx) (c : Cz) (P : Prg) (g : Nat) (x : Str) : Prop where
  ex : ∃ p, X.mg x = some (.ref p) ∧ ∀ s d, (P.kd g).lookup s = some d → ∃ v, KDct X.K X.w p (sS s) v ∧ ∀ w : Wd, R c w d v
theorem e_kdx {g : Nat} {x : Str} {a : E} {a' : PySem.Expr} {p pos : Pos} (K : KdZ X c P g x) (hg : glB X.env.scope.names x = true) (hs : noSlc a' = true) (ha : PE X a' (tE c z W (evE P cl a))) : PE X (.Subscript (.Name x p) a' pos) (tE c z W (evE P cl (.kdx g a))) := by
  obtain ⟨g1, g2, g3⟩ := glB_ok hg
  obtain ⟨pa, hm, hd⟩ := K.ex
  refine PE.imp (pe_ix (ix_kdict (X := X)) (pe_glob (v := .ref pa) g1 hm rfl g2) ha (noSlc_ok hs)) fun τ H Q ⟨w, σ, M, st, h⟩ => ?_
  rw [evE] at h
  refine tE_bind st h fun w1 M1 H1 x v k1 s1 r1 h1 => ?_
  cases x with
  | str s =>
    obtain ⟨rfl, _⟩ := r1
    obtain ⟨d, hl, h1⟩ := match_sat h1
    obtain ⟨v, k, r⟩ := hd s d hl
    exact ⟨pa, sS s, v, rfl, rfl, k, Sat.here h1 s1.m (r w1)⟩
  | _ => exact h1.elim

/-! ### isinstance -/
def tyVal (c : Cz) (z : Ez) : Ty → Value
  | .bool_ => .type "bool" | .int_ => .type "int" | .str_ => .type "str" | .list_ => .type "list" | .tuple_ => .type "tuple" | .dict_ => .type "dict" | .non_ => .type "NoneType"
  | .cls k => .ref (c.ca k)
  | .exc k => .ref (z.ea k)
/-- what isinstance asks of a class of instances -/
structure IsC (K : PySem.W.Frag) (C : Addr) : Prop where
  cl : Cls K C
  ha : PySem.W.findIn K (.ref C) "__class__" = some (some (.builtin "object.__class__"))
  hn : PySem.W.specialIn K (.builtin "object.__class__") "__get__" = some (some (.builtin "getset_descriptor.__get__"))
  htk : PySem.W.takesIn K (.builtin "object.__class__") = some true
  hm : PySem.W.mroIn K C (.type "object") = some true
structure IsaZ (X : Cx) (c : Cz) (z : Ez) (P : Prg) : Prop where
  ans : ∀ t t' b, P.isa t t' = some b → PySem.W.kitOne X.K (tyVal c z t) (tyVal c z t') = some b
  cls : ∀ k t' b, P.isa (.cls k) t' = some b → IsC X.K (c.ca k)
theorem isAny_ok (A : IsaZ X c z P) {t : Ty} : ∀ {ts : List Ty} {b : Bool}, isAny P t ts = some b → PySem.W.kitAny X.K (tyVal c z t) (ts.map (tyVal c z)) = some b
  | [], b, h => by cases h; rfl
  | t' :: ts, b, h => by
    unfold isAny at h
    cases e : P.isa t t' with
    | none => rw [e] at h; cases h
    | some a =>
      rw [e] at h
      refine kitAny_cons (A.ans _ _ _ e) (fun ha => ?_) (fun ha => ?_)
      · subst ha; exact isAny_ok A h
      · subst ha; cases h; rfl
theorem isAny_cls {k : Nat} (A : IsaZ X c z P) : ∀ {ts : List Ty} {b : Bool}, ts ≠ [] → isAny P (.cls k) ts = some b → IsC X.K (c.ca k)
  | [], _, h, _ => absurd rfl h
  | t' :: ts, b, _, h => by
    unfold isAny at h
    cases e : P.isa (.cls k) t' with
    | none => rw [e] at h; cases h
    | some a => exact A.cls _ _ _ e
theorem Rd.tyT {K : PySem.W.Frag} {H : Hp} {a : Addr} {xs : List V} (r : SqT K H a xs) : TyX K H (.ref a) (.type "tuple") := by
  rcases r with (r | ⟨o, r⟩) | ⟨o, its, n, r1, r2, _⟩
  · exact .base (.tup r)
  · exact .fTuple r
  · exact .kTuple r1 r2
theorem Rd.tyL {K : PySem.W.Frag} {H : Hp} {a : Addr} {xs : List V} (r : SqL K H a xs) : TyX K H (.ref a) (.type "list") := by
  rcases r with (r | ⟨o, r⟩) | ⟨o, its, n, r1, r2, _⟩
  · exact .base (.lst r)
  · exact .base (.frz r)
  · exact .kList r1 r2
theorem ty_v {w : Wd} {M : Sto} {H : Hp} {d : D} {v : V} {t : Ty} (hK : c.K = X.K) (m : MR c w M H) (r : RB c w M H d v) (h : tyM M d = some t) (hc : ∀ k, t = .cls k → IsC X.K (c.ca k)) : TyX X.K H v (tyVal c z t) := by
  have rv := RV.look m r
  cases d with
  | ref n =>
    cases hm : M.m n with
    | none => simp [tyM, hm] at h
    | some mo =>
      cases mo with
      | lst ds =>
        simp only [look, hm] at rv
        simp only [tyM, hm] at h
        cases h
        obtain ⟨a, xs, rfl, q, _⟩ := rv
        exact .base (.lst q)
      | dct ks vs =>
        simp only [look, hm] at rv
        simp only [tyM, hm] at h
        cases h
        obtain ⟨a, xs, rfl, q, _⟩ := rv
        exact .base (.dK q)
      | ins k ns vs =>
        simp only [tyM, hm] at h
        cases h
        obtain ⟨a, dx, fs, rfl, ha, _⟩ := ins_v m r (k := k) (ns := ns) (vs := vs) (by simp [insOf, hm])
        have q := hc k rfl
        exact .base (.ins ha q.cl q.ha q.hn q.htk q.hm)
  | non => cases h; cases rv; exact .base .non
  | bl b => cases h; cases rv; exact .base (.bl b)
  | int i => cases h; cases rv; exact .base (.int i)
  | str x => cases h; obtain ⟨rfl, _⟩ := rv; exact .base (.str _)
  | tup ds => cases h; obtain ⟨a, xs, rfl, q, _⟩ := RV.tup m rv; exact Rd.tyT (hK ▸ q)
  | lst ds => cases h; obtain ⟨a, xs, rfl, q, _⟩ := rv; exact .base (.lst q)
  | frl ds => cases h; obtain ⟨a, xs, rfl, q, _⟩ := RV.frl m rv; exact Rd.tyL (hK ▸ q)
  | dct ks vs => cases h; obtain ⟨a, kvs, rfl, q, _⟩ := rv; exact .base (.dK q)
  | obj k ns vs =>
    cases h
    obtain ⟨a, dx, fs, rfl, ha, _⟩ := ins_v m r (k := k) (ns := ns) (vs := vs) rfl
    have q := hc k rfl
    exact .base (.ins ha q.cl q.ha q.hn q.htk q.hm)
/-- a class, as a name -/
structure TyN (X : Cx) (c : Cz) (z : Ez) (t : Ty) (e : PySem.Expr) : Prop where
  ex : ∃ v, PE X e (tC v) ∧ ClsV v (tyVal c z t)
theorem tyN_bi {t : Ty} {x : Str} {p : Pos} {T : String} (hg : glB X.env.scope.names x = true) (hm : X.mg x = none) (hv : bootBuiltins x = some (.type T)) (ht : tyVal c z t = .type T) : TyN X c z t (.Name x p) := by
  obtain ⟨g1, g2, g3⟩ := glB_ok hg
  exact ⟨.ty T, pe_bltn g1 hm hv rfl g3 g2, ht ▸ .ty T⟩
theorem tyN_own {t : Ty} {x : Str} {p : Pos} {C : Addr} (hg : glB X.env.scope.names x = true) (hm : X.mg x = some (.ref C)) (ht : tyVal c z t = .ref C) : TyN X c z t (.Name x p) := by
  obtain ⟨g1, g2, g3⟩ := glB_ok hg
  exact ⟨.ref C, pe_glob g1 hm rfl g2, ht ▸ .own C⟩
theorem e_isi {t : Ty} {a : E} {a' b' : PySem.Expr} {p pos : Pos} (ok : Ok q X c z W) (A : IsaZ X c z P) (hg : glB X.env.scope.names "isinstance" = true) (hp : plainB a' = true) (hp2 : plainB b' = true) (ht : TyN X c z t b') (ha : PE X a' (tB c z W (evE P cl a))) :
    PE X (.Call (.Name "isinstance" p) [a', b'] [] pos) (tE c z W (evE P cl (.isi a [t]))) := by
  obtain ⟨g1, g2, g3⟩ := glB_ok hg
  obtain ⟨v, hv, cv⟩ := ht.ex
  have pa : PA X [a', b'] (tCons (tB c z W (evE P cl a)) (tCons (tC v) tNil)) := pa_cons ha (pa_cons hv pa_nil (plain_star hp2)) (plain_star hp)
  refine PE.imp (pe_callB (x := "isinstance") (call_isi (X := X)) g1 (ok.bn _ (by decide)) (by decide) pa (by decide) (by decide) (plain_star hp) (nos_any (by simp [hp2]))) fun τ H Q ⟨w, σ, M, st, h⟩ => ?_
  rw [evE] at h
  refine tB_bind st h fun w1 M1 H1 x u k1 s1 r1 h1 => ?_
  obtain ⟨t0, ht0, h1⟩ := match_sat h1
  obtain ⟨b, hb, h1⟩ := match_sat h1
  have q := isAny_ok A hb
  have e : PySem.W.kitOne X.K (tyVal c z t0) (tyVal c z t) = some b := by
    unfold isAny at hb
    cases e : P.isa t0 t with
    | none => rw [e] at hb; cases hb
    | some b' =>
      rw [e] at hb
      rw [A.ans _ _ _ e]
      cases b' with
      | true => exact hb
      | false => exact hb
  exact ⟨u, v, _, _, b, rfl, cv, ty_v ok.hK s1.m r1 ht0 (fun k ek => by subst ek; exact isAny_cls A (by simp) hb), e, Sat.here h1 s1.m rfl⟩
end
end Z


set_option Elab.async false
set_option linter.all false
set_option autoImplicit false
set_option maxRecDepth 100000
set_option maxHeartbeats 4000000
namespace Z
open PySem L2

/-! ### a body's states, over the state at its entry -/
structure Bs where
  w : Wd
  M : Sto
  H : Hp
  /-- what else stays -/
  pin : Wd → Prop
  mono : ∀ w w', Wle w w' → pin w → pin w'
structure StB (c : Cz) (B : Bs) (w : Wd) (σ : List SV) (M : Sto) (τ : St) (H : Hp) : Prop where
  kp : Keep B.w B.M B.H w M H
  m : MR c w M H
  len : σ.length = τ.length
  val : ∀ (i : Nat) (d : D), σ[i]? = some (.val d) → ∃ v, τ[i]? = some (some v) ∧ R c w d v
  brw : ∀ (i : Nat) (d : D), σ[i]? = some (.brw d) → ∃ v, τ[i]? = some (some v) ∧ RB c B.w B.M B.H d v
  own : ∀ (i : Nat) (mo : MO), σ[i]? = some (.own mo) → ∃ p o, τ[i]? = some (some (.ref p)) ∧ H p = some o ∧ MOr c w o mo ∧ w.F p = none ∧ ¬ InM w M p ∧ B.H p = none
  dis : ∀ (i j : Nat) (mo mo' : MO), σ[i]? = some (.own mo) → σ[j]? = some (.own mo') → τ[i]? = τ[j]? → i = j
  exc : ∀ (i k : Nat) (d : D), σ[i]? = some (.exc k d) → ∃ a dd f v, τ[i]? = some (some (.ref a)) ∧ c.xa a k dd f ∧ H dd = some (.xd [(f, v)]) ∧ R c w d v ∧ w.F dd = none ∧ ¬ InM w M dd
  pin : B.pin w
section
variable {c : Cz} {z : Ez} {W : WX} {B : Bs} {w w' : Wd} {σ : List SV} {M M' : Sto} {τ : St} {H H' : Hp}
theorem StB.sr (s : StB c B w σ M τ H) : SR c w σ M τ H := ⟨s.m, s.len, s.val, fun i d e => by
    obtain ⟨v, h1, h2⟩ := s.brw i d e
    exact ⟨v, h1, h2.keep s.kp⟩, fun i mo e => by
    obtain ⟨p, o, h1, h2, h3, h4, h5, _⟩ := s.own i mo e
    exact ⟨p, o, h1, h2, h3, h4, h5⟩, s.dis, s.exc⟩
theorem StB.keep (s : StB c B w σ M τ H) (k : Keep w M H w' M' H') (m : MR c w' M' H') : StB c B w' σ M' τ H' :=
  ⟨s.kp.trans k, m, s.len, fun i d e => by
    obtain ⟨v, h1, h2⟩ := s.val i d e
    exact ⟨v, h1, R.le k.le _ _ h2⟩, s.brw, fun i mo e => by
    obtain ⟨p, o, h1, h2, h3, h4, h5, h6⟩ := s.own i mo e
    obtain ⟨g2, g3, g4, g5⟩ := own_keep h2 h3 h4 h5 k
    exact ⟨p, o, h1, g2, g3, g4, g5, h6⟩, s.dis, fun i j d e => by
    obtain ⟨a, dd, f, v, h1, h2, h3, h4, h5, h6⟩ := s.exc i j d e
    obtain ⟨g1, g2, g3⟩ := xd_keep h3 h5 h6 k
    exact ⟨a, dd, f, v, h1, h2, g1, R.le k.le d v h4, g2, g3⟩, B.mono _ _ k.le s.pin⟩
theorem set_cases {α : Type} {xs : List α} {i j : Nat} {a b : α} (h : (xs.set i a)[j]? = some b) : (j = i ∧ b = a) ∨ (j ≠ i ∧ xs[j]? = some b) := by
  by_cases e : j = i
  · subst e
    rw [List.getElem?_set] at h
    rw [if_pos rfl] at h
    split at h
    · cases h; exact .inl ⟨rfl, rfl⟩
    · cases h
  · rw [List.getElem?_set_ne (Ne.symm e)] at h
    exact .inr ⟨e, h⟩
theorem set_lt {α : Type} {xs : List α} {i j : Nat} {a b : α} (h : (xs.set i a)[j]? = some b) : j < xs.length := by
  have := (List.getElem?_eq_some_iff.mp h).1
  simpa using this
/-- a slot gets a value that is no own object -/
theorem StB.setN (s : StB c B w σ M τ H) {i : Nat} {sv : SV} {v : V} (hv : ∀ d, sv = .val d → R c w d v) (hb : ∀ d, sv ≠ .brw d) (ho : ∀ mo, sv ≠ .own mo) (hx : ∀ k d, sv ≠ .exc k d) : StB c B w (σ.set i sv) M (τ.set i (some v)) H := by
  refine ⟨s.kp, s.m, by simp [s.len], fun j d e => ?_, fun j d e => ?_, fun j mo e => ?_, fun j k mo mo' e1 e2 e3 => ?_, fun j k d e => ?_, s.pin⟩
  · have hl := set_lt e
    rcases set_cases e with ⟨rfl, q⟩ | ⟨n, q⟩
    · exact ⟨v, by rw [List.getElem?_set_self (by rw [← s.len]; exact hl)], hv d q.symm⟩
    · obtain ⟨u, h1, h2⟩ := s.val j d q
      exact ⟨u, by rw [List.getElem?_set_ne (Ne.symm n)]; exact h1, h2⟩
  · rcases set_cases e with ⟨rfl, q⟩ | ⟨n, q⟩
    · exact absurd q.symm (hb d)
    · obtain ⟨u, h1, h2⟩ := s.brw j d q
      exact ⟨u, by rw [List.getElem?_set_ne (Ne.symm n)]; exact h1, h2⟩
  · rcases set_cases e with ⟨rfl, q⟩ | ⟨n, q⟩
    · exact absurd q.symm (ho mo)
    · obtain ⟨p, o, h1, h2⟩ := s.own j mo q
      exact ⟨p, o, by rw [List.getElem?_set_ne (Ne.symm n)]; exact h1, h2⟩
  · rcases set_cases e1 with ⟨rfl, q⟩ | ⟨n, q⟩
    · exact absurd q.symm (ho mo)
    · rcases set_cases e2 with ⟨rfl, q2⟩ | ⟨n2, q2⟩
      · exact absurd q2.symm (ho mo')
      · rw [List.getElem?_set_ne (Ne.symm n), List.getElem?_set_ne (Ne.symm n2)] at e3
        exact s.dis j k mo mo' q q2 e3
  · rcases set_cases e with ⟨rfl, q⟩ | ⟨n, q⟩
    · exact absurd q.symm (hx k d)
    · obtain ⟨a, dd, f, u, h1, h2⟩ := s.exc j k d q
      exact ⟨a, dd, f, u, by rw [List.getElem?_set_ne (Ne.symm n)]; exact h1, h2⟩
theorem StB.setV (s : StB c B w σ M τ H) {i : Nat} {d : D} {v : V} (r : R c w d v) : StB c B w (σ.set i (.val d)) M (τ.set i (some v)) H :=
  s.setN (fun d' e => by cases e; exact r) (fun d e => by cases e) (fun mo e => by cases e) (fun k d e => by cases e)
theorem MR.updF {p : Addr} {o : HO} (m : MR c w M H) (h1 : w.F p = none) (h2 : ¬ InM w M p) : MR c w M (L2.upd H p o) := by
  refine ⟨m.nx, fun a u e => ?_, fun n mo h => ?_, m.inj⟩
  · have : a ≠ p := fun z => by subst z; rw [h1] at e; cases e
    rw [upd_ne this]; exact m.sub a u e
  · obtain ⟨g1, g2, u, g3, g4⟩ := m.st n mo h
    exact ⟨g1, g2, u, by rw [upd_ne (fun z => h2 ⟨n, mo, h, z⟩)]; exact g3, g4⟩
theorem keep_own {p : Addr} {o : HO} (k : Keep B.w B.M B.H w M H) (hp : B.H p = none) : Keep B.w B.M B.H w M (upd H p o) :=
  ⟨k.le, fun a u e n => by rw [upd_ne (ne_of_none e hp)]; exact k.keep a u e n, k.fnew, k.rnew, fun a h => k.th a (upd_none h)⟩
/-- a slot gets a new own object -/
theorem StB.setO (s : StB c B w σ M τ H) {i : Nat} {mo : MO} {o : HO} {p : Addr} (hp : H p = none) (r : MOr c w o mo) : StB c B w (σ.set i (.own mo)) M (τ.set i (some (.ref p))) (upd H p o) := by
  obtain ⟨f1, f2⟩ := s.m.fresh hp
  refine ⟨keep_own s.kp (s.kp.th p hp), s.m.upd hp, by simp [s.len], fun j d e => ?_, fun j d e => ?_, fun j mo' e => ?_, fun j k mo1 mo2 e1 e2 e3 => ?_, fun j k d e => ?_, s.pin⟩
  · rcases set_cases e with ⟨rfl, q⟩ | ⟨n, q⟩
    · cases q
    · obtain ⟨u, h1, h2⟩ := s.val j d q
      exact ⟨u, by rw [List.getElem?_set_ne (Ne.symm n)]; exact h1, h2⟩
  · rcases set_cases e with ⟨rfl, q⟩ | ⟨n, q⟩
    · cases q
    · obtain ⟨u, h1, h2⟩ := s.brw j d q
      exact ⟨u, by rw [List.getElem?_set_ne (Ne.symm n)]; exact h1, h2⟩
  · have hl := set_lt e
    rcases set_cases e with ⟨rfl, q⟩ | ⟨n, q⟩
    · cases q
      exact ⟨p, o, by rw [List.getElem?_set_self (by rw [← s.len]; exact hl)], upd_same, r, f1, f2, s.kp.th p hp⟩
    · obtain ⟨p', o', h1, h2, h3⟩ := s.own j mo' q
      exact ⟨p', o', by rw [List.getElem?_set_ne (Ne.symm n)]; exact h1, by rw [upd_ne (ne_of_none h2 hp)]; exact h2, h3⟩
  · have hl1 := set_lt e1
    have hl2 := set_lt e2
    rcases set_cases e1 with ⟨rfl, q⟩ | ⟨n, q⟩ <;> rcases set_cases e2 with ⟨rfl, q2⟩ | ⟨n2, q2⟩
    · rfl
    · obtain ⟨p', o', h1, h2, h3⟩ := s.own k mo2 q2
      rw [List.getElem?_set_self (by rw [← s.len]; exact hl1), List.getElem?_set_ne (Ne.symm n2), h1] at e3
      cases e3
      rw [hp] at h2; cases h2
    · obtain ⟨p', o', h1, h2, h3⟩ := s.own j mo1 q
      rw [List.getElem?_set_self (by rw [← s.len]; exact hl2), List.getElem?_set_ne (Ne.symm n), h1] at e3
      cases e3
      rw [hp] at h2; cases h2
    · rw [List.getElem?_set_ne (Ne.symm n), List.getElem?_set_ne (Ne.symm n2)] at e3
      exact s.dis j k mo1 mo2 q q2 e3
  · rcases set_cases e with ⟨rfl, q⟩ | ⟨n, q⟩
    · cases q
    · obtain ⟨a, dd, f, u, h1, h2, h3, h4⟩ := s.exc j k d q
      exact ⟨a, dd, f, u, by rw [List.getElem?_set_ne (Ne.symm n)]; exact h1, h2, by rw [upd_ne (ne_of_none h3 hp)]; exact h3, h4⟩
theorem mor_xd {o : HO} {mo : MO} {fs : List (Str × V)} (r : MOr c w o mo) (e : o = .xd fs) : False := by
  cases mo with
  | lst ds => obtain ⟨vs, e2, _⟩ := r; rw [e] at e2; cases e2
  | dct ks ds => obtain ⟨kvs, e2, _⟩ := r; rw [e] at e2; cases e2
  | ins k ns ds => obtain ⟨dx, fs', e2, _⟩ := r; rw [e] at e2; cases e2
/-- an own object is written -/
theorem StB.mut (s : StB c B w σ M τ H) {j : Nat} {mo mo' : MO} {o' : HO} {p : Addr} (hj : σ[j]? = some (.own mo)) (hp : τ[j]? = some (some (.ref p))) (r : MOr c w o' mo') : StB c B w (σ.set j (.own mo')) M τ (upd H p o') := by
  obtain ⟨p', o, h1, h2, h3, h4, h5, h6⟩ := s.own j mo hj
  rw [hp] at h1; cases h1
  refine ⟨keep_own s.kp h6, s.m.updF h4 h5, by simp [s.len], fun i d e => ?_, fun i d e => ?_, fun i mo2 e => ?_, fun i k mo1 mo2 e1 e2 e3 => ?_, fun i k d e => ?_, s.pin⟩
  · rcases set_cases e with ⟨rfl, q⟩ | ⟨n, q⟩
    · cases q
    · exact s.val i d q
  · rcases set_cases e with ⟨rfl, q⟩ | ⟨n, q⟩
    · cases q
    · exact s.brw i d q
  · rcases set_cases e with ⟨rfl, q⟩ | ⟨n, q⟩
    · cases q
      exact ⟨p, o', hp, upd_same, r, h4, h5, h6⟩
    · obtain ⟨p2, o2, g1, g2, g3⟩ := s.own i mo2 q
      have ne : p2 ≠ p := fun e => by
        subst e
        exact n (s.dis i j mo2 mo q hj (g1.trans hp.symm))
      exact ⟨p2, o2, g1, by rw [upd_ne ne]; exact g2, g3⟩
  · rcases set_cases e1 with ⟨rfl, q⟩ | ⟨n, q⟩ <;> rcases set_cases e2 with ⟨rfl, q2⟩ | ⟨n2, q2⟩
    · rfl
    · exact s.dis _ k mo mo2 hj q2 e3
    · exact s.dis i _ mo1 mo q hj e3
    · exact s.dis i k mo1 mo2 q q2 e3
  · rcases set_cases e with ⟨rfl, q⟩ | ⟨n, q⟩
    · cases q
    · obtain ⟨a, dd, f, u, g1, g2, g3, g4⟩ := s.exc i k d q
      have ne : dd ≠ p := fun z => by
        subst z
        rw [h2] at g3
        exact mor_xd h3 (Option.some.inj g3)
      exact ⟨a, dd, f, u, g1, g2, by rw [upd_ne ne]; exact g3, g4⟩
/-- an own object's value becomes plain data: it will not be written any more -/
theorem StB.frz (s : StB c B w σ M τ H) {j : Nat} {mo : MO} {d : D} (hj : σ[j]? = some (.own mo)) (ht : thaw mo = some d) : ∃ w', StB c B w' (σ.set j (.val d)) M τ H := by
  obtain ⟨p, o, h1, h2, h3, h4, h5, h6⟩ := s.own j mo hj
  have le : Wle w (w.add p o) := .add h4
  · refine ⟨w.add p o, ⟨⟨s.kp.le.trans le, s.kp.keep, fun a u e q => ?_, s.kp.rnew, s.kp.th⟩, ⟨s.m.nx, fun a u e => ?_, fun n mo' h => ?_, s.m.inj⟩, by simp [s.len], fun i d' e => ?_, fun i d' e => ?_, fun i mo' e => ?_, fun i k mo1 mo2 e1 e2 e3 => ?_, fun i k d' e => ?_, B.mono _ _ le s.pin⟩⟩
    · have e' : upd w.F p o a = some u := e
      by_cases z : a = p
      · subst z; exact .inl h6
      · rw [upd_ne z] at e'; exact s.kp.fnew a u e' q
    · have e' : upd w.F p o a = some u := e
      by_cases z : a = p
      · subst z; rw [upd_same] at e'; cases e'; exact h2
      · rw [upd_ne z] at e'; exact s.m.sub a u e'
    · obtain ⟨g1, g2, u, g3, g4⟩ := s.m.st n mo' h
      exact ⟨g1, by show upd w.F p o (w.rh n) = none; rw [upd_ne (fun z => h5 ⟨n, mo', h, z⟩)]; exact g2, u, g3, g4.le le⟩
    · rcases set_cases e with ⟨rfl, q⟩ | ⟨n, q⟩
      · cases q
        refine ⟨_, h1, ?_⟩
        cases mo with
        | lst ds => cases ht; obtain ⟨vs, eo, rs⟩ := h3; exact ⟨p, vs, rfl, by show upd w.F p o p = _; rw [upd_same, eo], Rs.le le _ _ rs⟩
        | dct ks vs => cases ht; obtain ⟨kvs, eo, r1, r2, r3⟩ := h3; exact ⟨p, kvs, rfl, by show upd w.F p o p = _; rw [upd_same, eo], r1, r2, Rs.le le _ _ r3⟩
        | ins k ns vs => cases ht
      · obtain ⟨u, g1, g2⟩ := s.val i d' q
        exact ⟨u, g1, R.le le _ _ g2⟩
    · rcases set_cases e with ⟨rfl, q⟩ | ⟨n, q⟩
      · cases q
      · exact s.brw i d' q
    · rcases set_cases e with ⟨rfl, q⟩ | ⟨n, q⟩
      · cases q
      · obtain ⟨p2, o2, g1, g2, g3, g4, g5⟩ := s.own i mo' q
        have ne : p2 ≠ p := fun e => by
          subst e
          exact n (s.dis i j mo' mo q hj (g1.trans h1.symm))
        exact ⟨p2, o2, g1, g2, g3.le le, by show upd w.F p o p2 = none; rw [upd_ne ne]; exact g4, g5⟩
    · rcases set_cases e1 with ⟨rfl, q⟩ | ⟨n, q⟩
      · cases q
      · rcases set_cases e2 with ⟨rfl, q2⟩ | ⟨n2, q2⟩
        · cases q2
        · exact s.dis i k mo1 mo2 q q2 e3
    · rcases set_cases e with ⟨rfl, q⟩ | ⟨n, q⟩
      · cases q
      · obtain ⟨a, dd, f, u, g1, g2, g3, g4, g5, g6⟩ := s.exc i k d' q
        have ne : dd ≠ p := fun z => by
          subst z
          rw [h2] at g3
          exact mor_xd h3 (Option.some.inj g3)
        exact ⟨a, dd, f, u, g1, g2, g3, R.le le _ _ g4, by show upd w.F p o dd = none; rw [upd_ne ne]; exact g5, g6⟩
def Bs.and (B : Bs) (S : Wd → Prop) (hS : ∀ w w', Wle w w' → S w → S w') : Bs := ⟨B.w, B.M, B.H, fun w => B.pin w ∧ S w, fun w w' h q => ⟨B.mono _ _ h q.1, hS _ _ h q.2⟩⟩
theorem StB.and (s : StB c B w σ M τ H) {S : Wd → Prop} {hS : ∀ w w', Wle w w' → S w → S w'} (h : S w) : StB c (B.and S hS) w σ M τ H := ⟨s.kp, s.m, s.len, s.val, s.brw, s.own, s.dis, s.exc, s.pin, h⟩
theorem StB.fst {S : Wd → Prop} {hS : ∀ w w', Wle w w' → S w → S w'} (s : StB c (B.and S hS) w σ M τ H) : StB c B w σ M τ H := ⟨s.kp, s.m, s.len, s.val, s.brw, s.own, s.dis, s.exc, s.pin.1⟩
end
end Z


set_option Elab.async false
set_option linter.all false
set_option autoImplicit false
set_option maxRecDepth 100000
set_option maxHeartbeats 4000000
namespace Z
open PySem L2

/-! ### what a statement's result promises -/
def SatS (c : Cz) (z : Ez) (W : WX) (B : Bs) (Dn : Ends) (r : SRes) : Prop := match r with
  | .nx σ M => ∀ w τ H, StB c B w σ M τ H → Dn.nx τ H
  | .bk σ M => ∀ w τ H, StB c B w σ M τ H → Dn.bk τ H
  | .ct σ M => ∀ w τ H, StB c B w σ M τ H → Dn.ct τ H
  | .rt d M => ∀ w H v, Keep B.w B.M B.H w M H → MR c w M H → R c w d v → Dn.rt v H
  | .exc k d σ M => ∀ w τ H dd v, StB c B w σ M τ H → R c w d v → H dd = some (.xd [(z.ef k, v)]) → w.F dd = none → ¬ InM w M dd → W (.ref (z.ea k)) (some dd) τ H
  | .bad => False
def tS (c : Cz) (z : Ez) (W : WX) (B : Bs) (ev : List SV → Sto → SRes) : TS := fun Dn τ H => ∃ w σ M, StB c B w σ M τ H ∧ SatS c z W B Dn (ev σ M)
section
variable {c : Cz} {z : Ez} {W : WX} {B : Bs} {w : Wd} {σ : List SV} {M : Sto} {τ : St} {H : Hp} {Dn : Ends}
theorem exc_st {k : Nat} {d : D} {M' : Sto} {Dn' : Ends} (s : StB c B w σ M τ H) (h : SatS c z W B Dn' (.exc k d σ M')) : ExcAt c z (fun cl d H' => W cl d τ H') w M H k d M' :=
  fun w' H' dd v k m r h1 h2 h3 => h w' τ H' dd v (s.keep k m) r h1 h2 h3
theorem tE_st {ev : Ev} {f : D → Sto → SRes} (s : StB c B w σ M τ H) (h : SatS c z W B Dn ((ev σ M).st σ f)) {K : VK}
    (k : ∀ w1 M1 H1 d v, Keep w M H w1 M1 H1 → StB c B w1 σ M1 τ H1 → R c w1 d v → SatS c z W B Dn (f d M1) → K v H1) : tE c z W ev τ H K := by
  refine ⟨w, σ, M, s.sr, ?_⟩
  cases e : ev σ M with
  | ok d M1 =>
    rw [e] at h
    exact fun w1 H1 v k1 m1 r1 => k w1 M1 H1 d v k1 (s.keep k1 m1) r1 h
  | exc a d M1 => rw [e] at h; exact exc_st (Dn' := Dn) s h
  | bad => rw [e] at h; exact h
theorem tB_st {ev : Ev} {f : D → Sto → SRes} (s : StB c B w σ M τ H) (h : SatS c z W B Dn ((ev σ M).st σ f)) {K : VK}
    (k : ∀ w1 M1 H1 d v, Keep w M H w1 M1 H1 → StB c B w1 σ M1 τ H1 → RB c w1 M1 H1 d v → SatS c z W B Dn (f d M1) → K v H1) : tB c z W ev τ H K := by
  refine ⟨w, σ, M, s.sr, ?_⟩
  cases e : ev σ M with
  | ok d M1 =>
    rw [e] at h
    exact fun w1 H1 v k1 m1 r1 => k w1 M1 H1 d v k1 (s.keep k1 m1) r1 h
  | exc a d M1 => rw [e] at h; exact exc_st (Dn' := Dn) s h
  | bad => rw [e] at h; exact h
theorem tF_st {fl : List Bool} {ev : Evs} {f : List D → Sto → SRes} (s : StB c B w σ M τ H) (h : SatS c z W B Dn ((ev σ M).st σ f)) {K : List V → Hp → Prop}
    (k : ∀ w1 M1 H1 ds vs, Keep w M H w1 M1 H1 → StB c B w1 σ M1 τ H1 → Rf c w1 M1 H1 fl ds vs → SatS c z W B Dn (f ds M1) → K vs H1) : tF c z W fl ev τ H K := by
  refine ⟨w, σ, M, s.sr, ?_⟩
  cases e : ev σ M with
  | ok d M1 =>
    rw [e] at h
    exact fun w1 H1 v k1 m1 r1 => k w1 M1 H1 d v k1 (s.keep k1 m1) r1 h
  | exc a d M1 => rw [e] at h; exact exc_st (Dn' := Dn) s h
  | bad => rw [e] at h; exact h
/-- a new list -/
theorem tN_st {ev : Ev} {f : D → Sto → SRes} (s : StB c B w σ M τ H) (h : SatS c z W B Dn ((ev σ M).st σ fun d M1 => match d with
    | .lst ds => f (.lst ds) M1
    | _ => .bad)) {K : VK}
    (k : ∀ w1 M1 H1 ds xs p, StB c B w1 σ M1 τ H1 → Rs c w1 ds xs → H1 p = none → SatS c z W B Dn (f (.lst ds) M1) → K (.ref p) (upd H1 p (.lst xs))) : tN c z W ev τ H K := by
  refine ⟨w, σ, M, s.sr, ?_⟩
  cases e : ev σ M with
  | ok d M1 =>
    rw [e] at h
    cases d with
    | lst ds => exact fun w1 H1 xs p k1 m1 r1 hp => k w1 M1 H1 ds xs p (s.keep k1 m1) r1 hp h
    | _ => exact h
  | exc a d M1 => rw [e] at h; exact exc_st (Dn' := Dn) s h
  | bad => rw [e] at h; exact h
theorem elim_S {α : Type} {o : Option α} {f : α → SRes} (h : SatS c z W B Dn (o.elim .bad f)) : ∃ d, o = some d ∧ SatS c z W B Dn (f d) := by
  cases o with
  | none => exact h.elim
  | some d => exact ⟨d, rfl, h⟩
theorem if_S {r : SRes} {b : Prop} [Decidable b] (h : SatS c z W B Dn (if b then r else .bad)) : b ∧ SatS c z W B Dn r := by
  by_cases e : b
  · rw [if_pos e] at h; exact ⟨e, h⟩
  · rw [if_neg e] at h; exact h.elim
end
section
variable {q : Bool} {X : Cx} {c : Cz} {z : Ez} {W : WX} {B : Bs} {P : Prg} {cl : Call}
/-! ### simple statements -/
theorem s_pass {pos : Pos} : PS X (.Pass pos) (tS c z W B (evS P cl .pass_)) := PS.imp ps_pass fun Dn τ H ⟨w, σ, M, s, h⟩ => by
  rw [evS] at h; exact h w τ H s
theorem s_brk {pos : Pos} : PS X (.Break pos) (tS c z W B (evS P cl .brk)) := PS.imp ps_break fun Dn τ H ⟨w, σ, M, s, h⟩ => by
  rw [evS] at h; exact h w τ H s
theorem s_cnt {pos : Pos} : PS X (.Continue pos) (tS c z W B (evS P cl .cnt)) := PS.imp ps_continue fun Dn τ H ⟨w, σ, M, s, h⟩ => by
  rw [evS] at h; exact h w τ H s
theorem s_doc {x : Str} {j : _} {pos pos' : Pos} : PS X (.Expr (.Constant (.str x) j pos) pos') (tS c z W B (evS P cl .pass_)) := PS.imp ps_doc fun Dn τ H ⟨w, σ, M, s, h⟩ => by
  rw [evS] at h; exact h w τ H s
/-- no comprehension -/
def noLc : PySem.Expr → Bool
  | .ListComp _ _ _ _ | .SetComp _ _ _ _ | .DictComp _ _ _ _ _ => false
  | _ => true
theorem noLc_ok {e : PySem.Expr} {t : Option PySem.Expr} {l : Nat} {env : Env} (h : noLc e = true) : swapsWith e t l env = Pure.pure false := by
  cases e <;> first | rfl | (cases h)
theorem noLc_sole {e t : PySem.Expr} {l : Nat} {env : Env} (h : noLc e = true) : swapsWithSole [t] e l env = Pure.pure false := by
  unfold swapsWithSole
  exact noLc_ok h
theorem s_ex {e : E} {e' : PySem.Expr} {pos : Pos} (hn : noLc e' = true) (he : PE X e' (tB c z W (evE P cl e))) : PS X (.Expr e' pos) (tS c z W B (evS P cl (.ex e))) := PS.imp (ps_expr he (noLc_ok hn)) fun Dn τ H ⟨w, σ, M, s, h⟩ => by
  rw [evS] at h
  exact tB_st s h fun w1 M1 H1 d v k1 s1 r1 h1 => h1 w1 τ H1 s1
theorem s_ret {e : E} {e' : PySem.Expr} {pos : Pos} (he : PE X e' (tE c z W (evE P cl e))) : PS X (.Return (some e') pos) (tS c z W B (evS P cl (.ret e))) := PS.imp (ps_ret he) fun Dn τ H ⟨w, σ, M, s, h⟩ => by
  rw [evS] at h
  exact tE_st s h fun w1 M1 H1 d v k1 s1 r1 h1 => h1 w1 H1 v s1.kp s1.m r1
theorem s_retN {pos : Pos} : PS X (.Return none pos) (tS c z W B (evS P cl .retN)) := PS.imp ps_retN fun Dn τ H ⟨w, σ, M, s, h⟩ => by
  rw [evS] at h
  exact h w H .non s.kp s.m rfl
/-- a name that may be stored -/
def locB (sc : Scp) (x : Str) : Bool := sc.lookup x == some .local
theorem locB_ok {x : Str} (h : locB X.env.scope.names x = true) : Loc X.env.scope x ∧ (X.fn x = true ∨ X.env.scope.names.lookup x = some .local) := by
  have h : X.env.scope.names.lookup x = some .local := by simpa [locB] using h
  exact ⟨.inl h, .inr h⟩
theorem s_asg {i : Nat} {x : Str} {e : E} {e' : PySem.Expr} {pos p : Pos} (ok : Ok q X c z W) (hi : X.N[i]? = some x) (hx : locB X.env.scope.names x = true) (hn : noLc e' = true) (he : PE X e' (tE c z W (evE P cl e))) :
    PS X (.Assign [.Name x p] e' pos) (tS c z W B (evS P cl (.asg i e))) := PS.imp (ps_set ok.nd hi (locB_ok hx).1 he (noLc_ok hn) (locB_ok hx).2) fun Dn τ H ⟨w, σ, M, s, h⟩ => by
  rw [evS] at h
  exact tE_st s h fun w1 M1 H1 d v k1 s1 r1 h1 => h1 w1 _ H1 (s1.setV r1)
theorem s_own {i : Nat} {x : Str} {e : E} {e' : PySem.Expr} {pos p : Pos} (ok : Ok q X c z W) (hi : X.N[i]? = some x) (hx : locB X.env.scope.names x = true) (hn : noLc e' = true) (he : PE X e' (tN c z W (evE P cl e))) :
    PS X (.Assign [.Name x p] e' pos) (tS c z W B (evS P cl (.own i e))) := PS.imp (ps_set ok.nd hi (locB_ok hx).1 he (noLc_ok hn) (locB_ok hx).2) fun Dn τ H ⟨w, σ, M, s, h⟩ => by
  rw [evS] at h
  refine tN_st (f := fun d M1 => match d with
    | .lst ds => .nx (σ.set i (.own (.lst ds))) M1
    | _ => .bad) s h fun w1 M1 H1 ds xs p s1 r1 hp h1 => ?_
  exact h1 w1 _ _ (s1.setO hp ⟨xs, rfl, r1⟩)
theorem s_frz {j : Nat} {sts : List PySem.Stmt} {ss : Ss} (hr : PSs X sts (tS c z W B (evSs P cl ss))) : PSs X sts (tS c z W B (evSs P cl (.cons (.frz j) ss))) := PSs.imp hr fun Dn τ H ⟨w, σ, M, s, h⟩ => by
  rw [evSs, evS] at h
  unfold getO at h
  split at h
  · rename_i o eo
    show tS c z W B (evSs P cl ss) Dn τ H
    have h : SatS c z W B Dn (((thaw o).elim SRes.bad fun d => SRes.nx (σ.set j (.val d)) M).bind fun σ1 M1 => evSs P cl ss σ1 M1) := h
    cases ht : thaw o with
    | none => rw [ht] at h; exact h.elim
    | some d =>
      rw [ht] at h
      obtain ⟨w', s'⟩ := s.frz eo ht
      exact ⟨w', _, M, s', h⟩
  · exact h.elim
/-! ### a tuple's parts -/
def gts : List Nat → TGs
  | [] => gNil
  | i :: is => gCons (gName i) (gts is)
theorem tgs_ok (ok : Ok q X c z W) : ∀ {is : List Nat} {es : List PySem.Expr}, tgsB X.N X.env.scope.names is es = true → PGs X es (gts is)
  | [], [], _ => pgs_nil
  | [], _ :: _, h => by cases h
  | _ :: _, [], h => by cases h
  | i :: is, e :: es, h => by
    simp only [tgsB, Bool.and_eq_true] at h
    obtain ⟨h1, h2⟩ := h
    cases e <;> first | (simp [tgB] at h1; done) | skip
    rename_i x p
    simp only [tgB, Bool.and_eq_true, beq_iff_eq] at h1
    exact pgs_cons (pg_name ok.nd (ixB_ok h1.1) (.inl h1.2) (.inr h1.2)) (tgs_ok ok h2) rfl
theorem gts_run {w : Wd} {M : Sto} {H : Hp} {K : St → Hp → Prop} : ∀ {is : List Nat} {ds : List D} {vs : List V} {σ σ' : List SV} {τ : St}, StB c B w σ M τ H → Rs c w ds vs → setT σ is ds = some σ' → (∀ τ', StB c B w σ' M τ' H → K τ' H) → gts is vs τ H K
  | [], ds, vs, σ, σ', τ, s, r, h, k => by
    cases ds with
    | nil => cases r; cases h; exact ⟨rfl, k τ s⟩
    | cons d ds => cases h
  | i :: is, ds, vs, σ, σ', τ, s, r, h, k => by
    cases ds with
    | nil => cases h
    | cons d ds =>
      obtain ⟨v, vr, rfl, r1, r2⟩ := r
      exact ⟨v, vr, rfl, gts_run (is := is) (s.setV r1) r2 h k⟩
theorem tgs_len {N : List Str} {sc : Scp} : ∀ {is : List Nat} {es : List PySem.Expr}, tgsB N sc is es = true → es.length = is.length ∧ ∀ e ∈ es, ∃ x p, e = .Name x p
  | [], [], _ => ⟨rfl, fun e h => by cases h⟩
  | [], _ :: _, h => by cases h
  | _ :: _, [], h => by cases h
  | i :: is, e :: es, h => by
    simp only [tgsB, Bool.and_eq_true] at h
    obtain ⟨h1, h2⟩ := tgs_len h.2
    refine ⟨by simp [h1], fun e' he => ?_⟩
    rcases List.mem_cons.mp he with rfl | he
    · have q := h.1
      cases e' <;> first | (simp [tgB] at q; done) | exact ⟨_, _, rfl⟩
    · exact h2 e' he
theorem assignEach_names {env : Env} : ∀ {es : List PySem.Expr}, (∀ e ∈ es, ∃ x p, e = .Name x p) → (assignEach es env).length = es.length ∧ (assignEach es env).findIdx? (·.1) = none
  | [], _ => ⟨rfl, rfl⟩
  | e :: es, h => by
    obtain ⟨x, p, rfl⟩ := h e (List.mem_cons_self ..)
    obtain ⟨h1, h2⟩ := assignEach_names (env := env) fun e he => h e (List.mem_cons_of_mem _ he)
    have q : assignEach (.Name x p :: es) env = (false, assign (.Name x p) env) :: assignEach es env := rfl
    refine ⟨by rw [q]; simp [h1], ?_⟩
    rw [q, List.findIdx?_cons, h2]; rfl
/-- no display: nothing is swapped -/
def noTup : PySem.Expr → Bool
  | .Tuple _ _ _ => false
  | _ => true
theorem noTup_ok {e : PySem.Expr} {ts : List PySem.Expr} {env : Env} (h : noTup e = true) : swappedStores ts e env = Pure.pure none := by
  unfold swappedStores
  cases e <;> first | (cases h; done) | skip
  all_goals (split <;> first | rfl | (rename_i q; split at q <;> first | (cases q; done) | (rename_i q2; cases q2)) | skip)
end
end Z


set_option Elab.async false
set_option linter.all false
set_option autoImplicit false
set_option maxRecDepth 100000
set_option maxHeartbeats 4000000
namespace Z
open PySem L2

section
variable {c : Cz} {w : Wd} {M : Sto} {H : Hp}
/-! ### an object of the store is written -/
theorem put_at {n m : Nat} {mo mo' : MO} (h : (M.put n mo).m m = some mo') : (m = n ∧ mo' = mo) ∨ (m ≠ n ∧ M.m m = some mo') := by
  have h : (if m = n then some mo else M.m m) = some mo' := h
  by_cases e : m = n
  · rw [if_pos e] at h; cases h; exact .inl ⟨e, rfl⟩
  · rw [if_neg e] at h; exact .inr ⟨e, h⟩
theorem keep_put {n : Nat} {mo mo' : MO} {o : HO} (m : MR c w M H) (hm : M.m n = some mo) : Keep w M H w (M.put n mo') (upd H (w.rh n) o) := by
  refine ⟨.refl w, fun a u e k => ?_, fun a u e k => (by rw [e] at k; cases k), fun a h => ?_, fun a h => upd_none h⟩
  · have : a ≠ w.rh n := fun z => k ⟨n, mo, hm, z.symm⟩
    rw [upd_ne this]; exact e
  · obtain ⟨n', mo2, h1, h2⟩ := h
    rcases put_at h1 with ⟨rfl, _⟩ | ⟨_, h3⟩
    · exact .inr ⟨_, mo, hm, h2⟩
    · exact .inr ⟨n', mo2, h3, h2⟩
theorem MR.put {n : Nat} {mo mo' : MO} {o : HO} (m : MR c w M H) (hm : M.m n = some mo) (r : MOr c w o mo') : MR c w (M.put n mo') (L2.upd H (w.rh n) o) := by
  obtain ⟨h1, h2, _⟩ := m.st n mo hm
  have nn : ∀ {k : Nat} {mo2 : MO}, (M.put n mo').m k = some mo2 → ∃ mo3, M.m k = some mo3 := fun {k mo2} h => by
    rcases put_at h with ⟨rfl, _⟩ | ⟨_, h⟩
    · exact ⟨_, hm⟩
    · exact ⟨_, h⟩
  refine ⟨m.nx, fun a u e => ?_, fun k mo2 h => ?_, fun k k' mo1 mo2 e1 e2 e => ?_⟩
  · have : a ≠ w.rh n := fun z => by subst z; rw [h2] at e; cases e
    rw [upd_ne this]; exact m.sub a u e
  · rcases put_at h with ⟨rfl, rfl⟩ | ⟨ne, h⟩
    · exact ⟨h1, h2, o, upd_same, r⟩
    · obtain ⟨g1, g2, u, g3, g4⟩ := m.st k mo2 h
      have : w.rh k ≠ w.rh n := fun z => ne (m.inj k n mo2 mo h hm z)
      exact ⟨g1, g2, u, by rw [upd_ne this]; exact g3, g4⟩
  · obtain ⟨_, q1⟩ := nn e1
    obtain ⟨_, q2⟩ := nn e2
    exact m.inj k k' _ _ q1 q2 e
/-- fields, as they are written -/
theorem put_fld (inj : ∀ a b, c.an a = c.an b → a = b) {f : Nat} {d : D} {v : V} (rv : R c w d v) : ∀ {ns : List Nat} {vs : List D} {fs : List (Str × V)}, fs.map (·.1) = ns.map c.an → Rs c w vs (fs.map (·.2)) →
    (putF (c.an f) v fs).map (·.1) = (putN f ns).map c.an ∧ Rs c w (putL f d ns vs) ((putF (c.an f) v fs).map (·.2))
  | [], [], [], _, _ => ⟨rfl, _, _, rfl, rv, rfl⟩
  | [], d :: ds, [], _, r => by obtain ⟨x, xs, e, _⟩ := r; simp at e
  | [], _, _ :: _, e, _ => by simp at e
  | n :: ns, _, [], e, _ => by simp at e
  | n :: ns, [], p :: fs, e, r => by have r : (p :: fs).map (·.2) = [] := r; simp at r
  | n :: ns, d' :: vs, (x, u) :: fs, e, ⟨y, ys, e2, r1, r2⟩ => by
    simp only [List.map_cons, List.cons.injEq] at e e2
    obtain ⟨rfl, e⟩ := e
    obtain ⟨rfl, e2⟩ := e2
    rw [← e2] at r2
    by_cases hf : n = f
    · subst hf
      simp only [putF, putN, putL, if_pos rfl]
      exact ⟨by simp [e], _, _, rfl, rv, r2⟩
    · have h2 : c.an n ≠ c.an f := fun z => hf (inj _ _ z)
      simp only [putF, putN, putL, if_neg hf, if_neg h2]
      obtain ⟨q1, q2⟩ := put_fld inj rv e r2
      exact ⟨by simp [q1], _, _, rfl, r1, q2⟩
theorem fs_len {ns : List Nat} {fs : List (Str × V)} (h : fs.map (·.1) = ns.map c.an) : fs.length = ns.length := by
  have := congrArg List.length h
  simpa using this
/-- keys, as they are written -/
theorem put_keyA {k : DK} {d : D} {v : V} (rv : R c w d v) : ∀ {ks : List DK} {vs : List D} {kvs : List (Key × V)}, kvs.map (·.1) = ks.map kK → Rs c w vs (kvs.map (·.2)) →
    Rs c w ((ks.zip vs).map fun q => if q.1 = k then d else q.2) ((kvs.map fun kv => if kv.1 = kK k then (kv.1, v) else kv).map (·.2))
  | [], [], [], _, _ => rfl
  | [], d :: ds, [], _, r => by obtain ⟨x, xs, e, _⟩ := r; simp at e
  | [], _, _ :: _, e, _ => by simp at e
  | n :: ns, _, [], e, _ => by simp at e
  | n :: ns, [], p :: fs, e, r => by have r : (p :: fs).map (·.2) = [] := r; simp at r
  | n :: ns, d' :: vs, (x, u) :: fs, e, ⟨y, ys, e2, r1, r2⟩ => by
    simp only [List.map_cons, List.cons.injEq] at e e2
    obtain ⟨rfl, e⟩ := e
    obtain ⟨rfl, e2⟩ := e2
    rw [← e2] at r2
    have q := put_keyA (k := k) rv e r2
    by_cases hf : n = k
    · subst hf
      simp only [List.zip_cons_cons, List.map_cons, if_pos rfl]
      exact ⟨_, _, rfl, rv, q⟩
    · have h2 : ¬ kK n = kK k := fun z => hf (kK_inj z)
      simp only [List.zip_cons_cons, List.map_cons, if_neg hf, if_neg h2]
      exact ⟨_, _, rfl, r1, q⟩
theorem put_keyM {k : DK} {v : V} : ∀ {ks : List DK} {kvs : List (Key × V)}, kvs.map (·.1) = ks.map kK → (kvs.map fun kv => if kv.1 = kK k then (kv.1, v) else kv).map (·.1) = ks.map kK
  | ks, kvs, e => by
    rw [← e, List.map_map]
    refine List.map_congr_left fun q _ => ?_
    simp only [Function.comp]
    split <;> rfl
theorem any_key {k : DK} {ks : List DK} {kvs : List (Key × V)} (e : kvs.map (·.1) = ks.map kK) : (kvs.any fun kv => decide (kv.1 = kK k)) = decide (k ∈ ks) := by
  have : (kvs.any fun kv => decide (kv.1 = kK k)) = ((kvs.map (·.1)).any fun q => decide (q = kK k)) := by rw [List.any_map]; rfl
  rw [this, e, List.any_map]
  by_cases h : k ∈ ks
  · simp only [h, decide_true, List.any_eq_true]
    exact ⟨k, h, by simp⟩
  · simp only [h, decide_false]
    rw [List.any_eq_false]
    intro q hq
    simp only [Function.comp, decide_eq_true_eq]
    intro z
    rw [kK_inj z] at hq
    exact h hq
theorem put_key {k : DK} {d : D} {v : V} {ks : List DK} {vs : List D} {kvs : List (Key × V)} (rv : R c w d v) (hk : okK k) (e1 : kvs.map (·.1) = ks.map kK) (e2 : ∀ k ∈ ks, okK k) (e3 : Rs c w vs (kvs.map (·.2))) :
    MOr c w (.dK (putK kvs (kK k) v)) (.dct (putKD ks vs k d).1 (putKD ks vs k d).2) := by
  unfold putK putKD
  rw [any_key e1]
  by_cases h : k ∈ ks
  · simp only [h, decide_true, if_true]
    exact ⟨_, rfl, put_keyM e1, e2, put_keyA rv e1 e3⟩
  · simp only [h, decide_false, if_false]
    refine ⟨_, rfl, ?_, fun q hq => ?_, ?_⟩
    · simp [e1]
    · rcases List.mem_append.mp hq with z | z
      · exact e2 q z
      · rw [List.mem_singleton.mp z]; exact hk
    · rw [if_neg (by simp), List.map_append]
      exact e3.app ⟨_, _, rfl, rv, rfl⟩
theorem dkOf_ok {d : D} {k : DK} {v : V} (h : dkOf d = some k) (r : R c w d v) : okK k := by
  cases d <;> simp only [dkOf, reduceCtorEq, Option.some.injEq] at h
  · subst h; exact True.intro
  · subst h; exact r.2
end
end Z


set_option Elab.async false
set_option linter.all false
set_option autoImplicit false
set_option maxRecDepth 100000
set_option maxHeartbeats 4000000
namespace Z
open PySem L2

/-! ### a dict's display, in the store -/
theorem mergeK_app : ∀ (kvs acc : List (Key × V)), ((acc ++ kvs).map (·.1)).Nodup → mergeK acc kvs = acc ++ kvs
  | [], acc, _ => by simp [mergeK]
  | p :: kvs, acc, h => by
    have hn : (acc.any fun kv => decide (kv.1 = p.1)) = false := by
      rw [List.any_eq_false]
      intro q hq
      simp only [decide_eq_true_eq]
      intro e
      rw [List.map_append, List.nodup_append] at h
      exact h.2.2 q.1 (List.mem_map_of_mem hq) p.1 (by simp) e
    have e : putK acc p.1 p.2 = acc ++ [p] := by unfold putK; rw [hn]; simp
    show mergeK (putK acc p.1 p.2) kvs = _
    rw [e, mergeK_app kvs (acc ++ [p]) (by simpa using h)]
    simp
section
variable {q : Bool} {X : Cx} {c : Cz} {z : Ez} {W : WX} {B : Bs} {P : Prg} {cl : Call}
/-- a dict's key, written -/
def keyB : DK → Option PySem.Expr → Bool
  | .i n, some (.Constant (.int j) _ _) => decide (n = j)
  | .s x, some (.Constant (.str y) _ _) => decide (sS x = y) && x.all (· < 1114112)
  | _, _ => false
def keysB : List DK → List (Option PySem.Expr) → Bool
  | [], [] => true
  | k :: ks, e :: es => keyB k e && keysB ks es
  | _, _ => false
/-- the values of a display -/
inductive VsZ (X : Cx) (c : Cz) (z : Ez) (W : WX) (P : Prg) (cl : Call) : Es → List PySem.Expr → Prop where
  | nil : VsZ X c z W P cl .nil []
  | cons {e : E} {es : Es} {e' : PySem.Expr} {es' : List PySem.Expr} (h : PE X e' (tE c z W (evE P cl e))) (t : VsZ X c z W P cl es es') : VsZ X c z W P cl (.cons e es) (e' :: es')
theorem VsZ.len {es : Es} {es' : List PySem.Expr} (h : VsZ X c z W P cl es es') {σ : List SV} {M : Sto} {ds : List D} {M' : Sto} : evEs P cl es σ M = .ok ds M' → ds.length = es'.length := by
  induction h generalizing M ds M' with
  | nil => intro e; rw [evEs] at e; cases e; rfl
  | @cons e es e' es' ha _ ih =>
    intro q
    rw [evEs] at q
    cases e1 : evE P cl e σ M with
    | ok d M1 =>
      rw [e1] at q
      simp only [Res.binds] at q
      cases e2 : evEs P cl es σ M1 with
      | ok ds2 M2 => rw [e2] at q; cases q; rw [List.length_cons, List.length_cons, ih e2]
      | exc k d M2 => rw [e2] at q; cases q
      | bad => rw [e2] at q; cases q
    | exc k d M1 => rw [e1] at q; cases q
    | bad => rw [e1] at q; cases q
def kTr : DK → TE
  | .i n => tC (.int n)
  | .s x => tC (.str (sS x))
def kTrs : List DK → List TE → List (TE × TE)
  | k :: ks, t :: ts => (kTr k, t) :: kTrs ks ts
  | _, _ => []
theorem key_ok {k : DK} {e : Option PySem.Expr} (h : keyB k e = true) : ∃ e', e = some e' ∧ PE X e' (kTr k) ∧ okK k := by
  unfold keyB at h
  split at h
  · have h := of_decide_eq_true h; subst h; exact ⟨_, rfl, pe_int, True.intro⟩
  · simp only [Bool.and_eq_true, decide_eq_true_eq, List.all_eq_true] at h
    obtain ⟨h1, h2⟩ := h
    subst h1
    exact ⟨_, rfl, pe_str, fun n hn => by simpa using h2 n hn⟩
  · cases h
def vTs (c : Cz) (z : Ez) (W : WX) (P : Prg) (cl : Call) : Es → List TE
  | .nil => []
  | .cons e es => tE c z W (evE P cl e) :: vTs c z W P cl es
  | .conB _ es => []
  | .star _ es => []
theorem pairs_ok {pos : Pos} : ∀ {ks : List DK} {keys : List (Option PySem.Expr)} {es : Es} {es' : List PySem.Expr}, keysB ks keys = true → VsZ X c z W P cl es es' → ks.length = es'.length →
    PPs X pos keys es' (kTrs ks (vTs c z W P cl es)) ∧ keys.all (·.isSome) = true ∧ keys.length = ks.length ∧ (∀ k ∈ ks, okK k)
  | [], [], _, _, _, .nil, _ => ⟨pps_nil, rfl, rfl, fun k h => by cases h⟩
  | [], _ :: _, _, _, h, _, _ => by cases h
  | _ :: _, [], _, _, h, _, _ => by cases h
  | [], [], _, _, _, .cons _ _, h => by simp at h
  | _ :: _, _ :: _, _, _, _, .nil, h => by simp at h
  | k :: ks, e :: keys, _, _, h, .cons ha t, hl => by
    simp only [keysB, Bool.and_eq_true] at h
    obtain ⟨e', rfl, h1, h2⟩ := key_ok (X := X) h.1
    obtain ⟨q1, q2, q3, q4⟩ := pairs_ok (pos := pos) h.2 t (by simpa using hl)
    refine ⟨pps_cons h1 ha q1, by simp [q2], by simp [q3], fun k' hk => ?_⟩
    rcases List.mem_cons.mp hk with rfl | hk
    · exact h2
    · exact q4 k' hk
theorem kTr_run {k : DK} {τ : St} {H : Hp} {Q : VK} (h : Q (kV (kK k)) H) : kTr k τ H Q := by
  cases k <;> exact h
theorem pairs_run {σ : List SV} {τ : St} {wo : Wd} {Mo : Sto} {Ho : Hp} {Q : VK} : ∀ {ks : List DK} {es : Es} {es' : List PySem.Expr} {w : Wd} {M : Sto} {H : Hp} {f : List D → Sto → Res} {K : List (V × V) → Hp → Prop}, VsZ X c z W P cl es es' → ks.length = es'.length →
    Keep wo Mo Ho w M H → SR c w σ M τ H → Sat c z (fun cl d H' => W cl d τ H') wo Mo Ho ((evEs P cl es σ M).bind f) Q →
    (∀ w1 M1 H1 ds (kvs : List (Key × V)), Keep w M H w1 M1 H1 → SR c w1 σ M1 τ H1 → kvs.map (·.1) = ks.map kK → Rs c w1 ds (kvs.map (·.2)) → Sat c z (fun cl d H' => W cl d τ H') wo Mo Ho (f ds M1) Q → K (kvs.map fun kv => (kV kv.1, kv.2)) H1) →
    tPairs (kTrs ks (vTs c z W P cl es)) τ H K
  | [], _, _, w, M, H, f, K, .nil, _, _, s, h, k => by
    rw [evEs] at h
    exact k w M H [] [] .refl s rfl rfl h
  | [], _, _, _, _, _, _, _, .cons _ _, hl, _, _, _, _ => by simp at hl
  | _ :: _, _, _, _, _, _, _, _, .nil, hl, _, _, _, _ => by simp at hl
  | k0 :: ks, _, _, w, M, H, f, K, .cons (e := e) (es := es) ha t, hl, ko, s, h, k => by
    refine kTr_run ?_
    rw [evEs] at h
    refine ⟨w, σ, M, s, ?_⟩
    cases e1 : evE P cl e σ M with
    | ok d M1 =>
      rw [e1] at h
      intro w1 H1 v k1 m1 r1
      have s1 := s.keep k1 m1
      have h : Sat c z (fun cl d H' => W cl d τ H') wo Mo Ho (((evEs P cl es σ M1).binds fun xs M2 => .ok (d :: xs) M2).bind f) Q := h
      refine pairs_run (Q := Q) (f := fun xs M2 => f (d :: xs) M2) t (by simpa using hl) (ko.trans k1) s1 ?_ fun w2 M2 H2 ds kvs k2 s2 e1 rs h2 => ?_
      · cases e2 : evEs P cl es σ M1 with
        | ok ds M2 => rw [e2] at h; exact h
        | exc a b M2 => rw [e2] at h; exact h
        | bad => rw [e2] at h; exact h
      · exact k w2 M2 H2 (d :: ds) ((kK k0, v) :: kvs) (k1.trans k2) s2 (by simp [e1]) ⟨_, _, rfl, R.le k2.le _ _ r1, rs⟩ h2
    | exc a b M1 =>
      rw [e1] at h
      have h : ExcAt c z (fun cl d H' => W cl d τ H') wo Mo Ho a b M1 := h
      exact h.step ko
    | bad => rw [e1] at h; exact h
/-- an object at a place of its own becomes one of the store -/
theorem keep_newO {w0 w : Wd} {M0 M : Sto} {H0 H : Hp} {p : Addr} {mo : MO} {o : HO} (k : Keep w0 M0 H0 w M H) (m : MR c w M H) (hp : H0 p = none) (h1 : w.F p = none) (h2 : ¬ InM w M p) (r : MOr c w o mo) :
    Keep w0 M0 H0 (w.new p) (M.new mo) (upd H p o) ∧ MR c (w.new p) (M.new mo) (upd H p o) := by
  refine ⟨⟨k.le.trans .new, fun a u e n => ?_, k.fnew, fun a h => ?_, fun a h => k.th a (upd_none h)⟩, ⟨?_, fun a u e => ?_, fun n mo' h => ?_, fun n n' mo1 mo2 e1 e2 e => ?_⟩⟩
  · rw [upd_ne (ne_of_none e hp)]; exact k.keep a u e n
  · obtain ⟨n, mo', g1, g2⟩ := h
    rcases Sto.new_at g1 with ⟨e, _⟩ | ⟨e, g3⟩
    · rw [e, m.nx, new_self] at g2; exact .inl (g2 ▸ hp)
    · rw [new_old (m.st n mo' g3).1] at g2
      exact k.rnew a ⟨n, mo', g3, g2⟩
  · show M.nx + 1 = w.nx + 1
    rw [m.nx]
  · have : a ≠ p := fun z => by subst z; have e : w.F a = some u := e; rw [h1] at e; cases e
    rw [upd_ne this]; exact m.sub a u e
  · rcases Sto.new_at h with ⟨e, e2⟩ | ⟨e, g3⟩
    · subst e2
      rw [e, m.nx, new_self]
      exact ⟨Nat.lt_succ_self _, h1, o, upd_same, r.le .new⟩
    · obtain ⟨h4, h5, u, h6, h7⟩ := m.st n mo' g3
      rw [new_old h4]
      exact ⟨Nat.lt_succ_of_lt h4, h5, u, by rw [upd_ne (fun z => h2 ⟨n, mo', g3, z⟩)]; exact h6, h7.le .new⟩
  · rcases Sto.new_at e1 with ⟨q1, _⟩ | ⟨q1, g3⟩ <;> rcases Sto.new_at e2 with ⟨q2, _⟩ | ⟨q2, g4⟩
    · rw [q1, q2]
    · rw [q1, m.nx, new_self, new_old (m.st n' mo2 g4).1] at e
      exact absurd ⟨n', mo2, g4, e.symm⟩ h2
    · rw [q2, m.nx, new_self, new_old (m.st n mo1 g3).1] at e
      exact absurd ⟨n, mo1, g3, e⟩ h2
    · rw [new_old (m.st n mo1 g3).1, new_old (m.st n' mo2 g4).1] at e
      exact m.inj n n' mo1 mo2 g3 g4 e
theorem kK_nodup {ks : List DK} (h : ks.Nodup) : (ks.map kK).Nodup := by
  unfold List.Nodup at h ⊢
  rw [List.pairwise_map]
  exact h.imp fun n e => n (kK_inj e)
theorem e_dctR {ks : List DK} {as : Es} {keys : List (Option PySem.Expr)} {es' : List PySem.Expr} {pos : Pos} (hk : keysB ks keys = true) (hl : ks.length = es'.length) (h15 : ks.length ≤ 15) (hv : VsZ X c z W P cl as es') : PE X (.Dict keys es' pos) (tE c z W (evE P cl (.dctR ks as))) := by
  obtain ⟨q1, q2, q3, q4⟩ := pairs_ok (pos := pos) hk hv hl
  cases ks with
  | nil =>
    cases keys with
    | cons a b => cases hk
    | nil =>
      cases hv with
      | cons _ _ => simp at hl
      | nil =>
        refine PE.imp pe_dnewK fun τ H Q ⟨w, σ, M, s, h⟩ p hp => ?_
        rw [evE, evEs] at h
        have th : ∀ a, upd H p (.dK []) a = none → H a = none := fun a h => upd_none h
        exact h (w.new p) _ (.ref p) (keep_new (mo := .dct [] []) s.m hp (upd_keeps hp) th) (s.m.new hp (upd_keeps hp) upd_same ⟨[], rfl, rfl, fun k h => (by cases h), rfl⟩) ⟨by rw [s.m.nx, new_self], by rw [s.m.nx]; exact Nat.lt_succ_self _⟩
  | cons k0 ks =>
    refine PE.imp (pe_disp q1 q2 (by rw [q3, hl]) (fun e => by rw [e] at q3; simp at q3) (by rw [q3]; exact h15)) fun τ H Q ⟨w, σ, M, s, h⟩ p hp => ?_
    rw [evE] at h
    have kp := keep_upd (o := .dK []) s.m hp
    have s' := s.keep kp (s.m.upd hp)
    refine pairs_run hv hl kp s' h fun w1 M1 H1 ds kvs k1 s1 e1 rs h1 => ?_
    have hH : H1 p = some (.dK []) := k1.keep p _ upd_same (s.m.fresh hp).2
    have f1 : w1.F p = none ∧ ¬ InM w1 M1 p := by
      obtain ⟨g1, g2⟩ := s.m.fresh hp
      obtain ⟨_, _, g3, g4⟩ := own_keep (c := c) (mo := .dct [] []) (o := .dK []) upd_same ⟨[], rfl, rfl, fun k h => (by cases h), rfl⟩ g1 g2 k1
      exact ⟨g3, g4⟩
    refine ⟨hH, kvs, rfl, by have := congrArg List.length e1; simp only [List.length_map] at this; omega, ?_⟩
    by_cases hc : ds.length = (k0 :: ks).length ∧ (k0 :: ks).length ≤ 15 ∧ (k0 :: ks).Nodup
    · rw [if_pos hc] at h1
      rw [mergeK_app kvs [] (by simp only [List.nil_append, e1]; exact kK_nodup hc.2.2), List.nil_append]
      obtain ⟨g1, g2⟩ := keep_newO (mo := .dct (k0 :: ks) ds) (o := .dK kvs) (kp.trans k1) s1.m hp f1.1 f1.2 ⟨kvs, rfl, e1, q4, rs⟩
      exact h1 _ _ (.ref p) g1 g2 ⟨by rw [s1.m.nx, new_self], by rw [s1.m.nx]; exact Nat.lt_succ_self _⟩
    · rw [if_neg hc] at h1; exact h1.elim
end
end Z


set_option Elab.async false
set_option linter.all false
set_option autoImplicit false
set_option maxRecDepth 100000
set_option maxHeartbeats 4000000
namespace Z
open PySem L2

section
variable {q : Bool} {X : Cx} {c : Cz} {z : Ez} {W : WX} {B : Bs} {P : Prg} {cl : Call}
theorem setT_len : ∀ {is : List Nat} {ds : List D} {σ σ' : List SV}, setT σ is ds = some σ' → ds.length = is.length
  | [], [], _, _, _ => rfl
  | [], _ :: _, _, _, h => by cases h
  | _ :: _, [], _, _, h => by cases h
  | i :: is, d :: ds, σ, σ', h => by simp [setT_len (is := is) (ds := ds) h]
theorem s_unp {is : List Nat} {es : List PySem.Expr} {k : _} {e : E} {e' : PySem.Expr} {pos p : Pos} (ok : Ok q X c z W) (hq : q = true) (ht : tgsB X.N X.env.scope.names is es = true) (hn : noLc e' = true) (h2 : noTup e' = true) (he : PE X e' (tE c z W (evE P cl e))) :
    PS X (.Assign [.Tuple es k p] e' pos) (tS c z W B (evS P cl (.unp is e))) := by
  obtain ⟨l1, l2⟩ := tgs_len ht
  obtain ⟨l3, l4⟩ := assignEach_names (env := X.env) l2
  refine PS.imp (ps_asg he (pg_tup (ok.calm hq) (tgs_ok ok ht) l3 l4) (noLc_sole hn) (noTup_ok h2) rfl) fun Dn τ H ⟨w, σ, M, s, h⟩ => ?_
  rw [evS] at h
  refine tE_st s h fun w1 M1 H1 d v k1 s1 r1 h1 => ?_
  cases d with
  | tup ds =>
    have h1 : SatS c z W B Dn ((setT σ is ds).elim .bad fun σ1 => .nx σ1 M1) := h1
    obtain ⟨σ1, hs, h1⟩ := elim_S h1
    obtain ⟨a, xs, rfl, q, r⟩ := RV.tup s1.m r1
    exact ⟨a, xs, rfl, ok.hK ▸ q, by rw [r.length, setT_len hs, l1], gts_run s1 r hs fun τ' s' => h1 w1 τ' H1 s'⟩
  | _ => exact h1.elim
theorem s_sat {o : E} {f : Nat} {e : E} {o' e' : PySem.Expr} {pos p : Pos} (C : ClsZ X c P) (hn : noLc e' = true) (ho : PE X o' (tE c z W (evE P cl o))) (he : PE X e' (tE c z W (evE P cl e))) :
    PS X (.Assign [.Attribute o' (c.an f) p] e' pos) (tS c z W B (evS P cl (.sat o f e))) := PS.imp (ps_fld ho he (noLc_ok hn)) fun Dn τ H ⟨w, σ, M, s, h⟩ => by
  rw [evS] at h
  refine tE_st s h fun w1 M1 H1 v y k1 s1 r1 h1 => ?_
  refine tE_st s1 h1 fun w2 M2 H2 x u k2 s2 r2 h2 => ?_
  cases x with
  | ref n =>
    have h2 : SatS c z W B Dn (match M2.m n with
      | some (.ins k ns vs) => if ns.length < 1000 ∧ P.fld k f = true then .nx σ (M2.put n (.ins k (putN f ns) (putL f v ns vs))) else .bad
      | _ => .bad) := h2
    cases hm : M2.m n with
    | none => rw [hm] at h2; exact h2.elim
    | some mo =>
      rw [hm] at h2
      cases mo with
      | ins k ns vs =>
        obtain ⟨⟨hl, hf⟩, h2⟩ := if_S h2
        obtain ⟨rfl, hx⟩ := r2
        obtain ⟨_, _, ob, hob, dx, fs, rfl, e1, rs⟩ := s2.m.st n _ hm
        obtain ⟨c1, c2⟩ := C.fld k f hf
        refine ⟨_, _, dx, fs, rfl, hob, c1, c2, by rw [fs_len e1]; exact hl, ?_⟩
        obtain ⟨q1, q2⟩ := put_fld C.inj (R.le k2.le _ _ r1) e1 rs
        have rr : MOr c w2 (.ins (c.ca k) dx (putF (c.an f) y fs)) (.ins k (putN f ns) (putL f v ns vs)) := ⟨dx, _, rfl, q1, q2⟩
        exact h2 w2 τ _ (s2.keep (keep_put s2.m hm) (s2.m.put hm rr))
      | _ => exact h2.elim
  | _ => exact h2.elim
def rAat (op : Bin) : V → V → Hp → VK → Prop := fun x y H Q => ∃ i j r, x = .int i ∧ y = .int j ∧ aatO op i j = some r ∧ Q (.int r) H
theorem in_aat (op : Bin) : InOp X (toOp op) (rAat op) := fun pins s σ H x y u v Q I rx ry ⟨i, j, r, e1, e2, e3, q⟩ => by
  cases op with
  | add => cases e3; exact in_add pins s σ H x y u v Q I rx ry ⟨i, j, e1, e2, q⟩
  | sub => cases e3; exact in_sub pins s σ H x y u v Q I rx ry ⟨i, j, e1, e2, q⟩
  | _ => cases e3
theorem asI_v {d : D} {i : Int} (h : asI d = some i) : d = .int i := by
  cases d with
  | int j => cases h; rfl
  | _ => cases h
theorem s_aat {o : E} {f : Nat} {op : Bin} {e : E} {o' e' : PySem.Expr} {pos p : Pos} (C : ClsZ X c P) (ho : PE X o' (tE c z W (evE P cl o))) (he : PE X e' (tE c z W (evE P cl e))) :
    PS X (.AugAssign (.Attribute o' (c.an f) p) (toOp op) e' pos) (tS c z W B (evS P cl (.aat o f op e))) := PS.imp (ps_fldaug ho he (in_aat op)) fun Dn τ H ⟨w, σ, M, s, h⟩ => by
  rw [evS] at h
  refine tE_st s h fun w1 M1 H1 x u k1 s1 r1 h1 => ?_
  cases x with
  | ref n =>
    have h1 : SatS c z W B Dn (match M1.m n with
      | some (.ins k ns vs) => if P.fld k f = true then ((ns.zip vs).lookup f).elim .bad fun v => (asI v).elim .bad fun i => (evE P cl e σ M1).st σ fun y M2 => (asI y).elim .bad fun j => (aatO op i j).elim .bad fun r => match M2.m n with
        | some (.ins k' ns' vs') => if k' = k ∧ ns'.length < 1000 then .nx σ (M2.put n (.ins k (putN f ns') (putL f (.int r) ns' vs'))) else .bad
        | _ => .bad
        else .bad
      | _ => .bad) := h1
    cases hm : M1.m n with
    | none => rw [hm] at h1; exact h1.elim
    | some mo =>
      rw [hm] at h1
      cases mo with
      | ins k ns vs =>
        obtain ⟨hf, h1⟩ := if_S h1
        obtain ⟨v, hv, h1⟩ := elim_S h1
        obtain ⟨i, hi, h1⟩ := elim_S h1
        cases asI_v hi
        obtain ⟨rfl, hx⟩ := r1
        obtain ⟨_, _, ob, hob, dx, fs, rfl, e1, rs⟩ := s1.m.st n _ hm
        obtain ⟨c1, c2⟩ := C.fld k f hf
        obtain ⟨v', hv', rv⟩ := fld_v C.inj e1 rs hv
        cases (show v' = V.int i from rv)
        refine ⟨_, _, dx, fs, _, rfl, hob, c1, c2, hv', ?_⟩
        refine tE_st s1 h1 fun w2 M2 H2 y t k2 s2 r2 h2 => ?_
        obtain ⟨j, hj, h3⟩ := elim_S h2
        obtain ⟨r, hr, h3⟩ := elim_S h3
        cases asI_v hj
        clear h2
        have h2 := h3
        cases (show t = V.int j from r2)
        refine ⟨i, j, r, rfl, rfl, hr, ?_⟩
        have h2 : SatS c z W B Dn (match M2.m n with
          | some (.ins k' ns' vs') => if k' = k ∧ ns'.length < 1000 then .nx σ (M2.put n (.ins k (putN f ns') (putL f (.int r) ns' vs'))) else .bad
          | _ => .bad) := h2
        cases hm2 : M2.m n with
        | none => rw [hm2] at h2; exact h2.elim
        | some mo2 =>
          rw [hm2] at h2
          cases mo2 with
          | ins k' ns' vs' =>
            obtain ⟨⟨rfl, hl⟩, h2⟩ := if_S h2
            obtain ⟨_, _, ob2, hob2, dx2, fs2, rfl, e3, rs2⟩ := s2.m.st n _ hm2
            rw [k2.le.rh n hx] at hob2
            refine ⟨dx2, fs2, hob2, by rw [fs_len e3]; exact hl, ?_⟩
            obtain ⟨q1, q2⟩ := put_fld C.inj (show R c w2 (.int r) (.int r) from rfl) e3 rs2
            have rr : MOr c w2 (.ins (c.ca k') dx2 (putF (c.an f) (.int r) fs2)) (.ins k' (putN f ns') (putL f (.int r) ns' vs')) := ⟨dx2, _, rfl, q1, q2⟩
            have := h2 w2 τ _ (s2.keep (keep_put s2.m hm2) (s2.m.put hm2 rr))
            rw [k2.le.rh n hx] at this
            exact this
          | _ => exact h2.elim
      | _ => exact h1.elim
  | _ => exact h1.elim
/-- what o[i] = v does -/
theorem own_put {w : Wd} {H : Hp} {p : Addr} {mo mo' : MO} {o : HO} {i d : D} {iv v : V} {Q : Hp → Prop} (hp : H p = some o) (r : MOr c w o mo) (ri : R c w i iv) (rv : R c w d v) (h : putOwn mo i d = some mo')
    (q : ∀ o', MOr c w o' mo' → Q (upd H p o')) : rSetL (.ref p) iv v H Q ∨ rSetD (.ref p) iv v H Q := by
  cases mo with
  | lst ds =>
    cases i with
    | int k =>
      have h : (ixOf ds.length k).map (fun j => MO.lst (ds.set j d)) = some mo' := h
      cases e : ixOf ds.length k with
      | none => rw [e] at h; cases h
      | some j =>
        rw [e] at h; cases h
        cases ri
        obtain ⟨xs, rfl, rs⟩ := r
        exact .inl ⟨p, xs, k, j, rfl, rfl, hp, by rw [rs.length]; exact e, q _ ⟨_, rfl, rs.set j rv⟩⟩
    | _ => cases h
  | dct ks vs =>
    have h : ((dkOf i).bind fun k => if ks.length < LIM then some (MO.dct (putKD ks vs k d).1 (putKD ks vs k d).2) else none) = some mo' := h
    cases e : dkOf i with
    | none => rw [e] at h; cases h
    | some k =>
      rw [e] at h
      have h : (if ks.length < LIM then some (MO.dct (putKD ks vs k d).1 (putKD ks vs k d).2) else none) = some mo' := h
      by_cases hl : ks.length < LIM
      · rw [if_pos hl] at h; cases h
        obtain ⟨kvs, rfl, e1, e2, e3⟩ := r
        have hy : iv = kV (kK k) := dkOf_v (H := H) e (by cases i <;> first | exact ri | cases e)
        have hlen : kvs.length = ks.length := by have := congrArg List.length e1; simpa using this
        exact .inr ⟨p, _, rfl, .inl ⟨kvs, kK k, hp, hy, by rw [hlen, LIM_eq]; exact hl, rfl⟩, q _ (put_key rv (dkOf_ok e ri) e1 e2 e3)⟩
      · rw [if_neg hl] at h; cases h
  | ins k ns vs => cases h
def rSetX : TSet := fun o i v H Q => rSetL o i v H Q ∨ rSetD o i v H Q
theorem set_x (hu : X.A.units + 65 < cLine) : PSet X rSetX := by
  intro pins s σ H o i v ov iv u Q I ro ri rv h
  rcases h with h | h
  · exact set_list pins s σ H o i v ov iv u Q I ro ri rv h
  · exact set_dict (by omega) pins s σ H o i v ov iv u Q I ro ri rv h
theorem sub_asg {o' i' : PySem.Expr} {pos : Pos} (hs : noSlc i' = true) : ∀ v, assign (.Subscript o' i' pos) X.env v = (do
      let ov ← holding [v] (eval o' X.env)
      let iv ← holding [v, ov] (eval i' X.env)
      standAt pos
      holding [v, ov, iv] (setItem ov iv v)
      release [v, ov, iv] []) := by
  intro v
  cases i' <;> first | rfl | (cases hs)
theorem sub_swap {o' i' e' : PySem.Expr} {p : Pos} {env : Env} : swappedStores [.Subscript o' i' p] e' env = Pure.pure none := by
  unfold swappedStores
  rfl
theorem s_sit {o i e : E} {o' i' e' : PySem.Expr} {pos p : Pos} (ok : Ok q X c z W) (hs : noSlc i' = true) (hn : noLc e' = true) (ho : PE X o' (tE c z W (evE P cl o))) (hi : PE X i' (tE c z W (evE P cl i))) (he : PE X e' (tE c z W (evE P cl e))) :
    PS X (.Assign [.Subscript o' i' p] e' pos) (tS c z W B (evS P cl (.sit o i e))) := PS.imp (ps_asg he (pg_sub ho hi (set_x ok.hu) (sub_asg hs)) (noLc_sole hn) sub_swap rfl) fun Dn τ H ⟨w, σ, M, s, h⟩ => by
  rw [evS] at h
  refine tE_st s h fun w1 M1 H1 v y k1 s1 r1 h1 => ?_
  refine tE_st s1 h1 fun w2 M2 H2 x u k2 s2 r2 h2 => ?_
  refine tE_st s2 h2 fun w3 M3 H3 j t k3 s3 r3 h3 => ?_
  obtain ⟨M4, hp, h3⟩ := elim_S h3
  cases x with
  | ref n =>
    have hp : ((M3.m n).bind fun mo => (putOwn mo j v).map fun mo' => M3.put n mo') = some M4 := hp
    cases hm : M3.m n with
    | none => rw [hm] at hp; cases hp
    | some mo =>
      rw [hm] at hp
      have hp : (putOwn mo j v).map (fun mo' => M3.put n mo') = some M4 := hp
      cases hq : putOwn mo j v with
      | none => rw [hq] at hp; cases hp
      | some mo' =>
        rw [hq] at hp; cases hp
        obtain ⟨rfl, hx⟩ := R.le k3.le _ _ r2
        obtain ⟨_, _, ob, hob, rr⟩ := s3.m.st n _ hm
        exact own_put hob rr r3 (R.le k3.le _ _ (R.le k2.le _ _ r1)) hq fun o'' r'' => h3 w3 τ _ (s3.keep (keep_put s3.m hm) (s3.m.put hm r''))
  | _ => cases hp
theorem s_osit {j : Nat} {x : Str} {i e : E} {i' e' : PySem.Expr} {pos p p2 : Pos} (ok : Ok q X c z W) (hj : X.N[j]? = some x) (hv : Vis X.env.scope x) (g1 : (x == ("__debug__" : Str)) = false) (g2 : (x == ("__classdict__" : Str)) = false)
    (hs : noSlc i' = true) (hn : noLc e' = true) (hi : PE X i' (tE c z W (evE P cl i))) (he : PE X e' (tE c z W (evE P cl e))) :
    PS X (.Assign [.Subscript (.Name x p2) i' p] e' pos) (tS c z W B (evS P cl (.osit j i e))) := PS.imp (ps_asg he (pg_sub (pe_var hj hv g1 g2) hi (set_x ok.hu) (sub_asg hs)) (noLc_sole hn) sub_swap rfl) fun Dn τ H ⟨w, σ, M, s, h⟩ => by
  rw [evS] at h
  refine tE_st s h fun w1 M1 H1 v y k1 s1 r1 h1 => ?_
  have h1 : SatS c z W B Dn ((getO σ j).elim .bad fun o => (evE P cl i σ M1).st σ fun y M2 => (putOwn o y v).elim .bad fun o' => .nx (σ.set j (.own o')) M2) := h1
  cases hg : getO σ j with
  | none => rw [hg] at h1; exact h1.elim
  | some mo =>
    rw [hg] at h1
    have h1 : SatS c z W B Dn ((evE P cl i σ M1).st σ fun y M2 => (putOwn mo y v).elim .bad fun o' => .nx (σ.set j (.own o')) M2) := h1
    have hσ : σ[j]? = some (.own mo) := by
      unfold getO at hg
      split at hg
      · rename_i o e; cases hg; exact e
      · cases hg
    obtain ⟨pa, ob, e1, _⟩ := s1.own j mo hσ
    refine ⟨.ref pa, e1, ?_⟩
    refine tE_st s1 h1 fun w2 M2 H2 i2 t k2 s2 r2 h2 => ?_
    have h2 : SatS c z W B Dn ((putOwn mo i2 v).elim .bad fun o' => .nx (σ.set j (.own o')) M2) := h2
    obtain ⟨mo', hq, h2⟩ := elim_S h2
    obtain ⟨pa', ob2, e2, hob, rr, _⟩ := s2.own j mo hσ
    rw [e1] at e2; cases e2
    exact own_put hob rr r2 (R.le k2.le _ _ r1) hq fun o'' r'' => h2 w2 τ _ (s2.mut hσ e1 r'')
end
end Z


set_option Elab.async false
set_option linter.all false
set_option autoImplicit false
set_option maxRecDepth 100000
set_option maxHeartbeats 4000000
namespace Z
open PySem L2

/-! ### walks -/
structure ItZ (c : Cz) (B : Bs) (J : L2.It) (ds : List D) (S : Wd → Prop) : Prop where
  mono : ∀ w w', Wle w w' → S w → S w'
  stop : ∀ {w : Wd} {σ : List SV} {M : Sto} {τ : St} {H : Hp}, StB c B w σ M τ H → S w → J.stop ds.length H
  go : ∀ {i : Nat} {w : Wd} {σ : List SV} {M : Sto} {τ : St} {H : Hp}, i < ds.length → StB c B w σ M τ H → S w → J.go i H
  yld : ∀ {i : Nat} {d : D} {w : Wd} {σ : List SV} {M : Sto} {τ : St} {H H' : Hp} {x : V}, ds[i]? = some d → StB c B w σ M τ H → S w → J.yld i H x H' → ∃ w', StB c B w' σ M τ H' ∧ S w' ∧ R c w' d x
def tI (c : Cz) (z : Ez) (W : WX) (B : Bs) (ev : List SV → Sto → Ress) : TI := fun τ H Q => ∃ w σ M, StB c B w σ M τ H ∧ match ev σ M with
  | .ok ds M' => ∀ w' H' J S, Keep w M H w' M' H' → StB c B w' σ M' τ H' → ItZ c B J ds S → S w' → Q J H'
  | .exc k d M' => ExcAt c z (fun cl d H' => W cl d τ H') w M H k d M'
  | .bad => False
section
variable {q : Bool} {X : Cx} {c : Cz} {z : Ez} {W : WX} {B : Bs} {P : Prg} {cl : Call}
def gtI (K : PySem.W.Frag) : List Nat → TG
  | [i] => gName i
  | is => gTup K is.length (gts is)
theorem pg_I {is : List Nat} {tg : PySem.Expr} (ok : Ok q X c z W) (hq : q = true) (h : tgtB X.N X.env.scope.names is tg = true) : PG X tg (gtI X.K is) := by
  unfold tgtB at h
  split at h
  · rename_i i
    cases tg <;> first | (simp [tgB] at h; done) | skip
    simp only [tgB, Bool.and_eq_true, beq_iff_eq] at h
    exact pg_name ok.nd (ixB_ok h.1) (.inl h.2) (.inr h.2)
  · rename_i es k p hne
    simp only [Bool.and_eq_true, decide_eq_true_eq] at h
    obtain ⟨l1, l2⟩ := tgs_len h.2
    obtain ⟨l3, l4⟩ := assignEach_names (env := X.env) l2
    have e : gtI X.K is = gTup X.K is.length (gts is) := by
      match is, h.1 with
      | [], h => simp at h
      | [_], h => simp at h
      | _ :: _ :: _, _ => rfl
    rw [e]
    exact pg_tup (ok.calm hq) (tgs_ok ok h.2) (l3.trans l1) l4
  · cases h
theorem gtI_run {K0 : PySem.W.Frag} (hK : c.K = K0) {is : List Nat} {d : D} {x : V} {σ σ' : List SV} {w : Wd} {M : Sto} {τ : St} {H : Hp} {K : St → Hp → Prop} (s : StB c B w σ M τ H) (r : R c w d x) (h : setI σ is d = some σ') (k : ∀ τ', StB c B w σ' M τ' H → K τ' H) :
    gtI K0 is x τ H K := by
  have tp : ∀ {ds : List D}, d = .tup ds → setT σ is ds = some σ' → gTup K0 is.length (gts is) x τ H K := fun {ds} ed hs => by
    subst ed
    obtain ⟨a, xs, rfl, q, rs⟩ := RV.tup s.m r
    exact ⟨a, xs, rfl, hK ▸ q, by rw [rs.length, setT_len hs], gts_run s rs hs k⟩
  match is, h with
  | [i], h => cases h; exact k _ (s.setV r)
  | [], h =>
    cases d with
    | tup ds => exact tp rfl h
    | _ => cases h
  | a :: b :: l, h =>
    cases d with
    | tup ds => exact tp rfl h
    | _ => cases h
/-- for target in items -/
theorem s_for {is : List Nat} {T : Z.T} {it : It} {b : Ss} {tg it' : PySem.Expr} {b' : List PySem.Stmt} {pos : Pos} (ok : Ok q X c z W) (hq : q = true) (hT : T = .tp is) (hp : PassesOwn (model X.prog X.w) X.A X.env X.xe) (hg : tgtB X.N X.env.scope.names is tg = true)
    (hi : PI X tg it' (tI c z W B (itE P cl it))) (hb : ∀ B', PSs X b' (tS c z W B' (evSs P cl b))) (hs : ∀ x, foldedSetIterable it' X.env x = Pure.pure x) : PS X (.For tg it' b' [] pos) (tS c z W B (evS P cl (.for_ T it b))) := by
  subst hT
  -- the body's promise is over a ground that is only known at the walk: it is asked for each
  refine ⟨fun pins s τ H Dn I ⟨w, σ, M, st, h⟩ => ?_⟩
  rw [evS] at h
  refine (ps_for (tb := fun Dn' τ' H' => ∃ B', tS c z W B' (evSs P cl b) Dn' τ' H') hp (ok.calm hq) hi (pg_I ok hq hg) ⟨fun pins s σ H D I ⟨B', h⟩ => (hb B').run pins s σ H D I h⟩ hs).run pins s τ H Dn I ?_
  refine ⟨w, σ, M, st, ?_⟩
  cases e : itE P cl it σ M with
  | bad => rw [e] at h; exact h
  | exc k d M1 => rw [e] at h; exact exc_st (Dn' := Dn) st h
  | ok ds M1 =>
    rw [e] at h
    intro w1 H1 J S k1 s1 z1 hS
    have h : SatS c z W B Dn (forL is (evSs P cl b) ds σ M1) := h
    refine ⟨fun i m τ' H' => ∃ w' σ' M', StB c (B.and S z1.mono) w' σ' M' τ' H' ∧ m = ds.length - i ∧ i ≤ ds.length ∧ SatS c z W B Dn (forL is (evSs P cl b) (ds.drop i) σ' M'), ⟨ds.length, w1, σ, M1, s1.and hS, rfl, Nat.zero_le _, h⟩, ?_⟩
    rintro i m τ' H' ⟨w', σ', M', s', rfl, hi', h'⟩
    have hS' : S w' := s'.pin.2
    by_cases hlt : i < ds.length
    · refine .inr ⟨z1.go hlt s'.fst hS', fun τ2 H2 => ∃ m', m' < ds.length - i ∧ ∃ w' σ' M', StB c (B.and S z1.mono) w' σ' M' τ2 H2 ∧ m' = ds.length - (i + 1) ∧ i + 1 ≤ ds.length ∧ SatS c z W B Dn (forL is (evSs P cl b) (ds.drop (i + 1)) σ' M'), fun σ2 H2 q => q, fun x H2 hy => ?_⟩
      have hd : ds[i]? = some ds[i] := List.getElem?_eq_getElem hlt
      obtain ⟨w2, s2, hS2, rx⟩ := z1.yld hd s'.fst hS' hy
      rw [List.drop_eq_getElem_cons hlt] at h'
      have h' : SatS c z W B Dn ((setI σ' is ds[i]).elim .bad fun σ1 => match evSs P cl b σ1 M' with
        | .nx σ2 M2 => forL is (evSs P cl b) (ds.drop (i + 1)) σ2 M2
        | .ct σ2 M2 => forL is (evSs P cl b) (ds.drop (i + 1)) σ2 M2
        | .bk σ2 M2 => .nx σ2 M2
        | r => r) := h'
      obtain ⟨σ1, hσ, h'⟩ := elim_S h'
      refine gtI_run ok.hK s2 rx hσ fun τ3 s3 => ⟨B.and S z1.mono, w2, σ1, M', s3.and hS2, ?_⟩
      cases er : evSs P cl b σ1 M' with
      | nx σ2 M2 => rw [er] at h'; exact fun w4 τ4 H4 s4 => ⟨_, by omega, w4, σ2, M2, s4, rfl, hlt, h'⟩
      | ct σ2 M2 => rw [er] at h'; exact fun w4 τ4 H4 s4 => ⟨_, by omega, w4, σ2, M2, s4, rfl, hlt, h'⟩
      | bk σ2 M2 => rw [er] at h'; exact fun w4 τ4 H4 s4 => h' w4 τ4 H4 s4.fst
      | rt d M2 => rw [er] at h'; exact h'
      | exc k d σ2 M2 => rw [er] at h'; exact fun w4 τ4 H4 dd v s4 => h' w4 τ4 H4 dd v s4.fst
      | bad => rw [er] at h'; exact h'
    · have ei : i = ds.length := by omega
      subst ei
      rw [List.drop_length] at h'
      exact .inl ⟨z1.stop s'.fst hS', h' w' τ' H' s'.fst⟩
/-- while -/
theorem s_while {e : E} {b : Ss} {e' : PySem.Expr} {b' : List PySem.Stmt} {pos : Pos} (hp : PassesOwn (model X.prog X.w) X.A X.env X.xe) (he : PT X e' (tTr c z W (evE P cl e))) (hb : PSs X b' (tS c z W B (evSs P cl b))) :
    PS X (.While e' b' [] pos) (tS c z W B (evS P cl (.while_ e b))) := PS.imp (ps_while hp he hb) fun Dn τ H ⟨w, σ, M, s, h⟩ => by
  rw [evS] at h
  refine ⟨fun m τ' H' => ∃ w' σ' M', StB c B w' σ' M' τ' H' ∧ SatS c z W B Dn (whileL (evE P cl e) (evSs P cl b) m σ' M'), ⟨WFUEL, w, σ, M, s, h⟩, ?_⟩
  rintro m τ1 H1 ⟨w1, σ1, M1, s1, h1⟩
  cases m with
  | zero => exact h1.elim
  | succ m =>
    have h1 : SatS c z W B Dn ((evE P cl e σ1 M1).st σ1 fun x M2 => (tru M2 x).elim .bad fun t => if t then (match evSs P cl b σ1 M2 with
      | .nx σ2 M2 => whileL (evE P cl e) (evSs P cl b) m σ2 M2
      | .ct σ2 M2 => whileL (evE P cl e) (evSs P cl b) m σ2 M2
      | .bk σ2 M2 => .nx σ2 M2
      | r => r) else .nx σ1 M2) := h1
    refine ⟨w1, σ1, M1, s1.sr, ?_⟩
    unfold evT
    cases ee : evE P cl e σ1 M1 with
    | bad => rw [ee] at h1; exact h1.elim
    | exc k d M2 => rw [ee] at h1; exact exc_st (Dn' := Dn) s1 h1
    | ok d M2 =>
      rw [ee] at h1
      have h1 : SatS c z W B Dn ((tru M2 d).elim .bad fun t => if t then (match evSs P cl b σ1 M2 with
        | .nx σ2 M2 => whileL (evE P cl e) (evSs P cl b) m σ2 M2
        | .ct σ2 M2 => whileL (evE P cl e) (evSs P cl b) m σ2 M2
        | .bk σ2 M2 => .nx σ2 M2
        | r => r) else .nx σ1 M2) := h1
      obtain ⟨t, ht, h1⟩ := elim_S h1
      show Sat c z (fun cl d H' => W cl d τ1 H') w1 M1 H1 ((tru M2 d).elim .bad fun b => .ok (.bl b) M2) _
      rw [ht]
      refine fun w2 H2 v k2 m2 r2 => ?_
      cases r2
      refine ⟨t, rfl, ?_⟩
      have s2 := s1.keep k2 m2
      cases t with
      | false => rw [if_neg Bool.false_ne_true] at h1; exact h1 w2 τ1 H2 s2
      | true =>
        rw [if_pos rfl] at h1
        show ∃ N : St → Hp → Prop, _
        refine ⟨fun τ3 H3 => ∃ m', m' < m + 1 ∧ ∃ w' σ' M', StB c B w' σ' M' τ3 H3 ∧ SatS c z W B Dn (whileL (evE P cl e) (evSs P cl b) m' σ' M'), fun σ' H' q => q, w2, σ1, M2, s2, ?_⟩
        cases er : evSs P cl b σ1 M2 with
        | nx σ2 M3 => rw [er] at h1; exact fun w4 τ4 H4 s4 => ⟨m, by omega, w4, σ2, M3, s4, h1⟩
        | ct σ2 M3 => rw [er] at h1; exact fun w4 τ4 H4 s4 => ⟨m, by omega, w4, σ2, M3, s4, h1⟩
        | bk σ2 M3 => rw [er] at h1; exact fun w4 τ4 H4 s4 => h1 w4 τ4 H4 s4
        | rt d M3 => rw [er] at h1; exact h1
        | exc k d σ2 M3 => rw [er] at h1; exact h1
        | bad => rw [er] at h1; exact h1
/-- if -/
theorem s_if {e : E} {s t : Ss} {e' : PySem.Expr} {s' t' : List PySem.Stmt} {pos : Pos} (he : PT X e' (tTr c z W (evE P cl e))) (hs : PSs X s' (tS c z W B (evSs P cl s))) (ht : PSs X t' (tS c z W B (evSs P cl t))) :
    PS X (.If e' s' t' pos) (tS c z W B (evS P cl (.ife e s t))) := PS.imp (ps_if he hs ht) fun Dn τ H ⟨w, σ, M, st, h⟩ => by
  rw [evS] at h
  refine ⟨w, σ, M, st.sr, ?_⟩
  unfold evT
  cases ee : evE P cl e σ M with
  | bad => rw [ee] at h; exact h.elim
  | exc k d M2 => rw [ee] at h; exact exc_st (Dn' := Dn) st h
  | ok d M2 =>
    rw [ee] at h
    have h : SatS c z W B Dn ((tru M2 d).elim .bad fun b => if b then evSs P cl s σ M2 else evSs P cl t σ M2) := h
    obtain ⟨b, hb, h⟩ := elim_S h
    show Sat c z (fun cl d H' => W cl d τ H') w M H ((tru M2 d).elim .bad fun b => .ok (.bl b) M2) _
    rw [hb]
    refine fun w2 H2 v k2 m2 r2 => ?_
    cases r2
    refine ⟨b, rfl, ?_⟩
    have s2 := st.keep k2 m2
    cases b with
    | false => rw [if_neg Bool.false_ne_true] at h; exact (show tS c z W B (evSs P cl t) Dn τ H2 from ⟨w2, σ, M2, s2, h⟩)
    | true => rw [if_pos rfl] at h; exact (show tS c z W B (evSs P cl s) Dn τ H2 from ⟨w2, σ, M2, s2, h⟩)
theorem ss_nil : PSs X [] (tS c z W B (evSs P cl .nil)) := PSs.imp pss_nil fun Dn τ H ⟨w, σ, M, s, h⟩ => by
  rw [evSs] at h; exact h w τ H s
theorem ss_cons {s : S} {ss : Ss} {s' : PySem.Stmt} {ss' : List PySem.Stmt} (h1 : PS X s' (tS c z W B (evS P cl s))) (h2 : PSs X ss' (tS c z W B (evSs P cl ss))) : PSs X (s' :: ss') (tS c z W B (evSs P cl (.cons s ss))) := PSs.imp (pss_cons h1 h2) fun Dn τ H ⟨w, σ, M, st, h⟩ => by
  rw [evSs] at h
  refine ⟨w, σ, M, st, ?_⟩
  cases e : evS P cl s σ M with
  | nx σ1 M1 => rw [e] at h; exact fun w1 τ1 H1 s1 => ⟨w1, σ1, M1, s1, h⟩
  | rt d M1 => rw [e] at h; exact h
  | bk σ1 M1 => rw [e] at h; exact h
  | ct σ1 M1 => rw [e] at h; exact h
  | exc k d σ1 M1 => rw [e] at h; exact h
  | bad => rw [e] at h; exact h
end
end Z


set_option Elab.async false
set_option linter.all false
set_option autoImplicit false
set_option maxRecDepth 100000
set_option maxHeartbeats 4000000
namespace Z
open PySem L2

section
variable {q : Bool} {X : Cx} {c : Cz} {z : Ez} {W : WX} {B : Bs} {P : Prg} {cl : Call} {tg : PySem.Expr}
theorem Rs.of_get {w : Wd} : ∀ {ds : List D} {vs : List V} {i : Nat} {d : D} {v : V}, Rs c w ds vs → ds[i]? = some d → vs[i]? = some v → R c w d v := fun {ds vs i d v} r h1 h2 => by
  obtain ⟨u, h3, h4⟩ := r.get h1
  rw [h2] at h3; cases h3
  exact h4
theorem itz_list {a : Addr} {ds : List D} (hK : c.K = X.K) : ItZ c B (Itl X.K a) ds fun w => ∃ xs, SqL c.K w.F a xs ∧ Rs c w ds xs where
  mono := fun w w' h ⟨xs, q, r⟩ => ⟨xs, SqL_le h q, Rs.le h _ _ r⟩
  stop := fun s ⟨xs, q, r⟩ => ⟨xs, hK ▸ SqL.sub s.m.sub q, Nat.le_of_eq r.length⟩
  go := fun {i _ _ _ _ _} hi s ⟨xs, q, r⟩ => ⟨xs, xs[i]'(by rw [r.length]; exact hi), hK ▸ SqL.sub s.m.sub q, List.getElem?_eq_getElem _⟩
  yld := fun {i d w σ M τ H H' x} hd s ⟨xs, q, r⟩ ⟨e, hx⟩ => by
    subst e
    exact ⟨w, s, ⟨xs, q, r⟩, r.of_get hd (hx xs (hK ▸ SqL.sub s.m.sub q))⟩
theorem itz_tup {a : Addr} {ds : List D} (hK : c.K = X.K) : ItZ c B (Itt X.K a) ds fun w => ∃ xs, SqT c.K w.F a xs ∧ Rs c w ds xs where
  mono := fun w w' h ⟨xs, q, r⟩ => ⟨xs, SqT_le h q, Rs.le h _ _ r⟩
  stop := fun s ⟨xs, q, r⟩ => ⟨xs, hK ▸ SqT.sub s.m.sub q, Nat.le_of_eq r.length⟩
  go := fun {i _ _ _ _ _} hi s ⟨xs, q, r⟩ => ⟨xs, xs[i]'(by rw [r.length]; exact hi), hK ▸ SqT.sub s.m.sub q, List.getElem?_eq_getElem _⟩
  yld := fun {i d w σ M τ H H' x} hd s ⟨xs, q, r⟩ ⟨e, hx⟩ => by
    subst e
    exact ⟨w, s, ⟨xs, q, r⟩, r.of_get hd (hx xs (hK ▸ SqT.sub s.m.sub q))⟩
theorem itz_str {x : List Nat} (ho : okS x) : ItZ c B (Its (sS x)) (x.map fun k => .str [k]) fun _ => True where
  mono := fun _ _ _ h => h
  stop := fun s _ => by show (x.toArray).size ≤ _; simp
  go := fun hi s _ => by show _ < (x.toArray).size; simpa using hi
  yld := fun {i d w σ M τ H H' v} hd s _ ⟨e, k, h1, h2⟩ => by
    subst e
    refine ⟨w, s, True.intro, ?_⟩
    rw [List.getElem?_map] at hd
    have h1 : (x.toArray)[i]? = some k := h1
    have h1 : x[i]? = some k := by simpa using h1
    rw [h1] at hd
    cases hd
    refine ⟨by rw [h2]; rfl, fun n hn => ?_⟩
    rw [List.mem_singleton.mp hn]
    exact ho k (List.mem_of_getElem? h1)
theorem itz_rng {lo : Int} {n : Nat} : ItZ c B (Itr lo n) (rngI lo n 1) fun _ => True where
  mono := fun _ _ _ h => h
  stop := fun s _ => by show n ≤ _; simp [rngI]
  go := fun hi s _ => by show _ < n; simpa [rngI] using hi
  yld := fun {i d w σ M τ H H' v} hd s _ ⟨e, h1⟩ => by
    subst e
    refine ⟨w, s, True.intro, ?_⟩
    unfold rngI at hd
    rw [List.getElem?_map] at hd
    cases hr : (List.range n)[i]? with
    | none => rw [hr] at hd; cases hd
    | some j =>
      rw [hr] at hd
      have : j = i := by
        rw [List.getElem?_range] at hr
        · cases hr; rfl
        · have := (List.getElem?_eq_some_iff.mp hr).1; simpa using this
      subst this
      cases hd
      rw [h1]
      simp [R]
/-- a value, walked -/
theorem i_seq {e : E} {e' : PySem.Expr} (ok : Ok q X c z W) (he : PE X e' (tE c z W (evE P cl e))) : PI X tg e' (tI c z W B (itE P cl (.seq e))) := by
  refine ⟨fun pins s τ H Q I ⟨w, σ, M, st, h⟩ => ?_⟩
  rw [itE] at h
  refine thn (he.run pins s τ H (fun x H1 => ∃ w1 M1 d, StB c B w1 σ M1 τ H1 ∧ R c w1 d x ∧ ∃ ds, seqI d = some ds ∧ ∀ J S, ItZ c B J ds S → S w1 → Q J H1) I ?_) fun v s1 ⟨x, H1, I1, r1, w1, M1, d, st1, rd, ds0, hs0, q⟩ => ?_
  · refine ⟨w, σ, M, st.sr, ?_⟩
    cases e1 : evE P cl e σ M with
    | bad => rw [e1] at h; exact h
    | exc k d M1 => rw [e1] at h; exact h
    | ok d M1 =>
      rw [e1] at h
      intro w1 H1 v k1 m1 r1
      have h : (match (seqI d).elim Ress.bad fun ds => .ok ds M1 with
        | .ok ds M' => ∀ w' H' J S, Keep w M H w' M' H' → StB c B w' σ M' τ H' → ItZ c B J ds S → S w' → Q J H'
        | .exc k d M' => ExcAt c z (fun cl d H' => W cl d τ H') w M H k d M'
        | .bad => False) := h
      cases hs : seqI d with
      | none => rw [hs] at h; exact h.elim
      | some ds =>
        rw [hs] at h
        exact ⟨w1, M1, d, st.keep k1 m1, r1, ds, hs, fun J S z1 z2 => h w1 H1 J S k1 (st.keep k1 m1) z1 z2⟩
  · cases d with
    | lst ds =>
      cases hs0
      obtain ⟨a, xs, rfl, hq, rs⟩ := rd
      cases r1
      have hq' : SqL c.K w1.F a xs := .inl (.inl hq)
      obtain ⟨its, rv, p, hz⟩ := I1.list (ok.hK ▸ SqL.sub st1.m.sub hq')
      refine wpAny_pyIter_list p.isList ?_
      refine ⟨s1.heap.objs.size, [s1.heap.objs.size], _, _, H1, rfl, I1.kept (t' := s1.toks) fun b o e => Heap.get?_push_of_some _ e, turn_list a _, ⟨_, Heap.get?_push_size _ rfl, rfl, rfl⟩, fun b hb => ?_, q _ _ (itz_list ok.hK) ⟨xs, hq', rs⟩⟩
      have e : b = s1.heap.objs.size := by simpa using hb
      subst e
      exact I1.fpOk (Nat.le_refl _) (I1.hok.fresh (Nat.le_refl _))
    | frl ds =>
      cases hs0
      obtain ⟨a, xs, rfl, hq', rs⟩ := rd
      cases r1
      obtain ⟨its, rv, p, hz⟩ := I1.list (ok.hK ▸ SqL.sub st1.m.sub hq')
      refine wpAny_pyIter_list p.isList ?_
      refine ⟨s1.heap.objs.size, [s1.heap.objs.size], _, _, H1, rfl, I1.kept (t' := s1.toks) fun b o e => Heap.get?_push_of_some _ e, turn_list a _, ⟨_, Heap.get?_push_size _ rfl, rfl, rfl⟩, fun b hb => ?_, q _ _ (itz_list ok.hK) ⟨xs, hq', rs⟩⟩
      have e : b = s1.heap.objs.size := by simpa using hb
      subst e
      exact I1.fpOk (Nat.le_refl _) (I1.hok.fresh (Nat.le_refl _))
    | tup ds =>
      cases hs0
      obtain ⟨a, xs, rfl, hq', rs⟩ := rd
      cases r1
      obtain ⟨its, rv, p, hz⟩ := I1.tuple (ok.hK ▸ SqT.sub st1.m.sub hq')
      refine wpAny_pyIter_tuple (show s1.heap.IsTuple a its.toArray from p) ?_
      refine ⟨s1.heap.objs.size, [s1.heap.objs.size], _, _, H1, rfl, I1.kept (t' := s1.toks) fun b o e => Heap.get?_push_of_some _ e, turn_tuple a _, ⟨_, Heap.get?_push_size _ rfl, rfl, rfl⟩, fun b hb => ?_, q _ _ (itz_tup ok.hK) ⟨xs, hq', rs⟩⟩
      have e : b = s1.heap.objs.size := by simpa using hb
      subst e
      exact I1.fpOk (Nat.le_refl _) (I1.hok.fresh (Nat.le_refl _))
    | str x =>
      cases hs0
      obtain ⟨rfl, ho⟩ := rd
      obtain ⟨t, rfl⟩ := r1
      have qq := q _ _ (itz_str (c := c) (B := B) ho) True.intro
      cases ha : (sS x).cps.all (· < 128)
      · exact wpAny_pyIter_wide ha (pi_one (tk := s1.toks) I1 _ (turn_str _ (sS x) t "str_iterator" (.inr rfl)) ⟨_, Heap.get?_push_size _ rfl, rfl, rfl⟩ qq)
      · exact wpAny_pyIter_ascii ha (pi_one (tk := s1.toks) I1 _ (turn_str _ (sS x) t "str_ascii_iterator" (.inl rfl)) ⟨_, Heap.get?_push_size _ rfl, rfl, rfl⟩ qq)
    | _ => cases hs0
/-- a lent list, walked -/
theorem i_lent {i : Nat} {x : Str} {p : Pos} (ok : Ok q X c z W) (hi : X.N[i]? = some x) (hv : Vis X.env.scope x) (g1 : (x == ("__debug__" : Str)) = false) (g2 : (x == ("__classdict__" : Str)) = false) : PI X tg (.Name x p) (tI c z W B (itE P cl (.lent i))) := by
  refine ⟨fun pins s τ H Q I ⟨w, σ, M, st, h⟩ => (pi_list (pe_var hi hv g1 g2)).run pins s τ H Q I ?_⟩
  rw [itE] at h
  split at h
  · rename_i ds M' e
    split at e
    · rename_i ds' e1
      cases e
      obtain ⟨v, e2, rb⟩ := st.brw i _ e1
      obtain ⟨a, xs, rfl, hq, rs⟩ := (RV.look st.m (rb.keep st.kp) : RV c w H (.lst ds) v)
      refine ⟨.ref a, e2, a, rfl, ⟨xs, .inl (.inl hq)⟩, h w H _ (fun _ => True) .refl st ?_ True.intro⟩
      have key : ∀ {w : Wd} {σ : List SV} {M : Sto} {τ : St} {H : Hp}, StB c B w σ M τ H → ∃ xs, H a = some (.lst xs) ∧ Rs c w ds xs := fun {w σ M τ H} s => by
        obtain ⟨a', xs, e, hq, rs⟩ := (RV.look s.m (rb.keep s.kp) : RV c w H (.lst ds) (.ref a))
        cases e
        exact ⟨xs, hq, rs⟩
      refine ⟨fun _ _ _ h => h, fun s _ => ?_, fun {i _ _ _ _ _} hi s _ => ?_, fun {i d w σ M τ H H' x} hd s _ ⟨e, hx⟩ => ?_⟩
      · obtain ⟨xs, hq, rs⟩ := key s
        exact ⟨xs, .inl (.inl hq), Nat.le_of_eq rs.length⟩
      · obtain ⟨xs, hq, rs⟩ := key s
        exact ⟨xs, xs[i]'(by rw [rs.length]; exact hi), .inl (.inl hq), List.getElem?_eq_getElem _⟩
      · subst e
        obtain ⟨xs, hq, rs⟩ := key s
        exact ⟨w, s, True.intro, rs.of_get hd (hx xs (.inl (.inl hq)))⟩
    · cases e
  · rename_i e
    split at e <;> cases e
  · exact h.elim
theorem plain_one {e : PySem.Expr} {env : Env} (h : plainB e = true) : starEach [e] env = [(false, eval e env)] := plain_star h
theorem pow62 : (2 : Int) ^ 62 = B62 := by decide
/-- range(j) -/
theorem i_rng1 {as : Es} {e' : PySem.Expr} {p pos : Pos} (ok : Ok q X c z W) (hB : noB as = true) (hS : noS as = true) (hc : cnt as = 1) (hg : glB X.env.scope.names "range" = true) (hp : plainB e' = true) (ha : PA X [e'] (tF c z W (flg as) (evEs P cl as))) :
    PI X tg (.Call (.Name "range" p) [e'] [] pos) (tI c z W B (itE P cl (.rng as))) := by
  obtain ⟨g1, g2, g3⟩ := glB_ok hg
  refine ⟨fun pins s τ H Q I ⟨w, σ, M, st, h⟩ => (pi_range1 g1 (ok.bn _ (by decide)) ha (plain_one hp)).run pins s τ H Q I ?_⟩
  rw [itE] at h
  refine ⟨w, σ, M, st.sr, ?_⟩
  cases e1 : evEs P cl as σ M with
  | bad => rw [e1] at h; exact h
  | exc k d M1 => rw [e1] at h; exact h
  | ok ds M1 =>
    rw [e1] at h
    intro w1 H1 vs k1 m1 r1
    have rs := Rf.rs (flg_noB hB) r1
    have h : (match (rngOf ds).elim Ress.bad fun ds => .ok ds M1 with
        | .ok ds M' => ∀ w' H' J S, Keep w M H w' M' H' → StB c B w' σ M' τ H' → ItZ c B J ds S → S w' → Q J H'
        | .exc k d M' => ExcAt c z (fun cl d H' => W cl d τ H') w M H k d M'
        | .bad => False) := h
    cases hs : rngOf ds with
    | none => rw [hs] at h; exact h.elim
    | some rs' =>
      rw [hs] at h
      have hl := cnt_len hS e1
      rw [hc] at hl
      match ds, hl, hs, rs with
      | [d], _, hs, ⟨v, r, e, r2, r3⟩ =>
        subst e
        cases r3
        cases d with
        | int j =>
          cases r2
          have hs : (if -B62 ≤ j ∧ j < B62 then some (rngI 0 j.toNat 1) else none) = some rs' := hs
          by_cases hj : -B62 ≤ j ∧ j < B62
          · rw [if_pos hj] at hs
            cases hs
            exact ⟨j, rfl, by rw [pow62]; exact hj.1, by rw [pow62]; exact hj.2, h w1 H1 _ _ k1 (st.keep k1 m1) itz_rng True.intro⟩
          · rw [if_neg hj] at hs; cases hs
        | _ => cases hs
/-- range(i, j) -/
theorem i_rng2 {as : Es} {e' f' : PySem.Expr} {p pos : Pos} (ok : Ok q X c z W) (hB : noB as = true) (hS : noS as = true) (hc : cnt as = 2) (hg : glB X.env.scope.names "range" = true) (hp : plainB e' = true) (hp2 : plainB f' = true) (ha : PA X [e', f'] (tF c z W (flg as) (evEs P cl as))) :
    PI X tg (.Call (.Name "range" p) [e', f'] [] pos) (tI c z W B (itE P cl (.rng as))) := by
  obtain ⟨g1, g2, g3⟩ := glB_ok hg
  refine ⟨fun pins s τ H Q I ⟨w, σ, M, st, h⟩ => (pi_range2 g1 (ok.bn _ (by decide)) ha (by rw [plain_star hp, plain_one hp2]) (plain_one hp2)).run pins s τ H Q I ?_⟩
  rw [itE] at h
  refine ⟨w, σ, M, st.sr, ?_⟩
  cases e1 : evEs P cl as σ M with
  | bad => rw [e1] at h; exact h
  | exc k d M1 => rw [e1] at h; exact h
  | ok ds M1 =>
    rw [e1] at h
    intro w1 H1 vs k1 m1 r1
    have rs := Rf.rs (flg_noB hB) r1
    have h : (match (rngOf ds).elim Ress.bad fun ds => .ok ds M1 with
        | .ok ds M' => ∀ w' H' J S, Keep w M H w' M' H' → StB c B w' σ M' τ H' → ItZ c B J ds S → S w' → Q J H'
        | .exc k d M' => ExcAt c z (fun cl d H' => W cl d τ H') w M H k d M'
        | .bad => False) := h
    cases hs : rngOf ds with
    | none => rw [hs] at h; exact h.elim
    | some rs' =>
      rw [hs] at h
      have hl := cnt_len hS e1
      rw [hc] at hl
      match ds, hl, hs, rs with
      | [d, d2], _, hs, ⟨v, _, e, r2, v2, _, e2, r3, r4⟩ =>
        cases r4; subst e2; subst e
        cases d with
        | int i =>
          cases d2 with
          | int j =>
            cases r2; cases r3
            have hs : (if (-B62 ≤ i ∧ i < B62) ∧ (-B62 ≤ j ∧ j < B62) then some (rngI i (j - i).toNat 1) else none) = some rs' := hs
            by_cases hj : (-B62 ≤ i ∧ i < B62) ∧ (-B62 ≤ j ∧ j < B62)
            · rw [if_pos hj] at hs
              cases hs
              exact ⟨i, j, rfl, by rw [pow62]; exact ⟨hj.1.1, hj.1.2, hj.2.1, hj.2.2⟩, h w1 H1 _ _ k1 (st.keep k1 m1) itz_rng True.intro⟩
            · rw [if_neg hj] at hs; cases hs
          | _ => cases hs
        | _ => cases hs
/-! ### append, extend -/
theorem s_oapp {j : Nat} {x : Str} {e : E} {e' : PySem.Expr} {p apos pos pos2 : Pos} (hj : X.N[j]? = some x) (hv : Vis X.env.scope x) (g1 : (x == ("__debug__" : Str)) = false) (g2 : (x == ("__classdict__" : Str)) = false) (hp : plainB e' = true) (hl : (apos.endLine == pos.line) = true)
    (he : PE X e' (tE c z W (evE P cl e))) : PS X (.Expr (.Call (.Attribute (.Name x p) "append" apos) [e'] [] pos) pos2) (tS c z W B (evS P cl (.oapp j e))) := by
  have pa := pa_cons he pa_nil (plain_star hp)
  refine PS.imp (ps_expr (pe_bm PySem.F.plainAttrs_list PySem.F.slot_list_append PySem.F.type_list_append mt_append (pe_var hj hv g1 g2) pa rfl (few_ok hp rfl rfl) hl (plain_star hp) rfl) rfl) fun Dn τ H ⟨w, σ, M, s, h⟩ => ?_
  rw [evS] at h
  split at h
  · rename_i ds hg
    have hσ : σ[j]? = some (.own (.lst ds)) := by
      unfold getO at hg
      split at hg
      · rename_i o e; cases hg; exact e
      · cases hg
    obtain ⟨pa, ob, e1, hob, ⟨xs, rfl, rs⟩, _⟩ := s.own j _ hσ
    refine ⟨.ref pa, e1, .inl ⟨rfl, xs, .inl (.inl hob)⟩, ?_⟩
    refine tE_st s h fun w1 M1 H1 v y k1 s1 r1 h1 => ?_
    obtain ⟨hl, h1⟩ := if_S h1
    obtain ⟨pa', ob, e2, hob, ⟨xs, rfl, rs⟩, _⟩ := s1.own j _ hσ
    rw [e1] at e2; cases e2
    have rr : MOr c w1 (.lst (xs ++ [y])) (.lst (ds ++ [v])) := ⟨_, rfl, rs.app ⟨y, [], rfl, r1, rfl⟩⟩
    exact ⟨pa, xs, y, rfl, rfl, hob, by rw [rs.length, LIM_eq]; exact hl, h1 w1 τ _ (s1.mut hσ e1 rr)⟩
  · exact h.elim
theorem s_app {o e : E} {o' e' : PySem.Expr} {apos pos pos2 : Pos} (hb : baseB o' = true) (hp : plainB e' = true) (hl : (apos.endLine == pos.line) = true) (ho : PE X o' (tE c z W (evE P cl o)))
    (he : PE X e' (tE c z W (evE P cl e))) : PS X (.Expr (.Call (.Attribute o' "append" apos) [e'] [] pos) pos2) (tS c z W B (evS P cl (.app o e))) := by
  have pa := pa_cons he pa_nil (plain_star hp)
  refine PS.imp (ps_expr (pe_bm PySem.F.plainAttrs_list PySem.F.slot_list_append PySem.F.type_list_append mt_append ho pa (base_ok hb) (few_ok hp rfl rfl) hl (plain_star hp) rfl) rfl) fun Dn τ H ⟨w, σ, M, s, h⟩ => ?_
  rw [evS] at h
  refine tE_st s h fun w1 M1 H1 x u k1 s1 r1 h1 => ?_
  cases x with
  | ref n =>
    have h1 : SatS c z W B Dn (if isL (look M1 (.ref n)) = true then (evE P cl e σ M1).st σ fun v M2 => match M2.m n with
      | some (.lst ds) => if ds.length < LIM then .nx σ (M2.put n (.lst (ds ++ [v]))) else .bad
      | _ => .bad
      else .bad) := h1
    obtain ⟨hi, h1⟩ := if_S h1
    refine ⟨?_, tE_st s1 h1 fun w2 M2 H2 v y k2 s2 r2 h2 => ?_⟩
    · have rv := RV.look s1.m (.inl r1)
      cases hd : look M1 (.ref n) with
      | lst ds =>
        rw [hd] at rv
        obtain ⟨a, xs, rfl, q, _⟩ := rv
        exact .inl ⟨rfl, xs, .inl (.inl q)⟩
      | _ => rw [hd] at hi; cases hi
    · have h2 : SatS c z W B Dn (match M2.m n with
        | some (.lst ds) => if ds.length < LIM then .nx σ (M2.put n (.lst (ds ++ [v]))) else .bad
        | _ => .bad) := h2
      cases hm : M2.m n with
      | none => rw [hm] at h2; exact h2.elim
      | some mo =>
        rw [hm] at h2
        cases mo with
        | lst ds =>
          obtain ⟨hl, h2⟩ := if_S h2
          obtain ⟨rfl, hx⟩ := R.le k2.le _ _ r1
          obtain ⟨_, _, ob, hob, xs, rfl, rs⟩ := s2.m.st n _ hm
          have rr : MOr c w2 (.lst (xs ++ [y])) (.lst (ds ++ [v])) := ⟨_, rfl, rs.app ⟨y, [], rfl, r2, rfl⟩⟩
          exact ⟨_, xs, y, rfl, rfl, hob, by rw [rs.length, LIM_eq]; exact hl, h2 w2 τ _ (s2.keep (keep_put s2.m hm) (s2.m.put hm rr))⟩
        | _ => exact h2.elim
  | _ => exact h1.elim
end
end Z


set_option Elab.async false
set_option linter.all false
set_option autoImplicit false
set_option maxRecDepth 100000
set_option maxHeartbeats 4000000
namespace PySem
namespace ErrX
open PySem.W PySem.Calls PyProof.Rows PySem.HandSPX
/-! ### class E(Base): def __init__(self, f): super().__init__('text'); self.f = f -/
def iA (f : Str) (p1 p2 : Pos) : Arguments := { posonlyargs := [], args := [{ arg := "self", annotation := none, pos := p1 }, { arg := f, annotation := none, pos := p2 }], vararg := none, kwonlyargs := [], kw_defaults := [], kwarg := none, defaults := [] }
def iB (f txt : Str) (j : Nat) (s0 s1 s2 s3 s4 s5 q1 q2 q3 q4 : Pos) : List Stmt :=
  [.Expr (.Call (.Attribute (.Call (.Name "super" s0) [] [] s1) "__init__" s2) [.Constant (.str txt) j s3] [] s4) s5, .Assign [.Attribute (.Name "self" q1) f q2] (.Name f q3) q4]
def iS (f : Str) : Scope := { kind := .function, names := [(PySem.Str.ofString "self", .local), (f, .local), (PySem.Str.ofString "__class__", .free), (PySem.Str.ofString "super", .globalImplicit)], isGenerator := false, isCoroutine := false, more := [] }
structure ErrTxt (prog : Program) (K : Frag) (mg : Str → Option Value) (f : Str) (C fI : Addr) : Prop where
  cls : ∃ nm q N bs bm sn sub ab col dd k0 k1 k2 k3 k5, K.lookup C = some (excClassObj nm q C N bs bm true sn sub ab col dd k0 k1 k2 k3 k5 "ValueError.__new__") ∧ refsVE bm = true
  sa : findIn K (.ref C) "__setattr__" = some (some (.builtin "object.__setattr__"))
  noN : findIn K (.ref C) f = some none
  iC : findIn K (.ref C) "__init__" = some (some (.ref fI))
  tC : typeIn K (.ref fI) = some (.type "function")
  kC : keepIn K (.ref C) = true
  exC : subIn K (.ref C) (.type "BaseException") = some true
  tyC : typeIn K (.ref C) = some (.type "type")
  sup : ks_superIn K C C "__init__" = some (some (.builtin "ValueError.__init__"))
  hB : subIn K (.ref C) (.type "ValueError") = some true
  own : mroIn K C (.ref C) = some true
  no : nsIn K cStatics "thirdparty.any" = some none
  gs : mg "super" = none
  top : (prog.main.scope.names.lookup ("super" : Str)).isSome = false
  fs : (f == ("self" : Str)) = false ∧ (f == ("__class__" : Str)) = false ∧ (f == ("super" : Str)) = false ∧ (f == ("__debug__" : Str)) = false
  fn : ∃ (oc : Value) (od : Option Addr) (doc pm : Value) (an : Option Addr) (ct : Value) (osl : Array (Option Value)) (txt : Str) (j : Nat) (p1 p2 s0 s1 s2 s3 s4 s5 q1 q2 q3 q4 : Pos) (qual : Str) (cda cc : Addr) (ccl cl : Value) (cdd cld : Option Addr) (ccs csl : Array (Option Value)) (vs : Array Value) (file : Str) (tf : Tok),
    K.lookup fI = some ⟨oc, od, .func (ksFn "__init__" qual (iA f p1 p2) (iB f txt j s0 s1 s2 s3 s4 s5 q1 q2 q3 q4) (iS f) .none .none doc pm an (.ref cda) ct cc), osl⟩ ∧ codeIn K (.ref cda) qual = true ∧
      K.lookup cda = some ⟨ccl, cdd, .fields vs, ccs⟩ ∧ vs[2]? = some (.str file tf) ∧ ((prog.main.file : Str) == file) = true ∧ K.lookup cc = some ⟨cl, cld, .cell (some (.ref C)), csl⟩ ∧ (s2.endLine == s4.line) = true ∧
      ∀ a b : Value, bindArgs (ksFn "__init__" qual (iA f p1 p2) (iB f txt j s0 s1 s2 s3 s4 s5 q1 q2 q3 q4) (iS f) .none .none doc pm an (.ref cda) ct cc) ⟨[a, b], []⟩ = Pure.pure [(("self" : Str), a), (f, b)]
section
variable {prog : Program} {w : World} {A : Around} {E : Value → Shared → Prop} {h : Heap} {g : Array GenState} {d : Drawn} {t : Nat} {os : OsState}
variable {nm q : Str} {C N : Addr} {bs bm : List Value} {hdct : Bool} {sn : List Str} {sub : List Value} {ab : Bool} {col : Option Bool} {dd : Option Addr} {k0 k1 k2 k3 k5 : Option Value}
theorem call_mw {u e t0 : Addr} {rest : List Value} {Q : Value → Shared → Prop}
    (hC : h.get? C = some (excClassObj nm q C N bs bm hdct sn sub ab col dd k0 k1 k2 k3 k5 "ValueError.__new__")) (he : h.get? e = some (excO C t0)) (hu : h.get? u = some (kxs_mw "ValueError.__init__" e)) (hrest : rest.length ≤ sizeLine)
    (hq : ∀ h' t1, (∀ b o, b ≠ e → h.get? b = some o → h'.get? b = some o) → h.objs.size ≤ h'.objs.size → h'.get? e = some (excO C t1) → Q .none ⟨h', g, d, t, os⟩) :
    wpAny (model prog w) A (call (.ref u) rest) Q E ⟨h, g, d, t, os⟩ := by
  refine wpAny_call (codeAny_of_tree ?_)
  show wpAny _ A.in1 (callAny (.ref u) ⟨rest, []⟩) _ _ _
  simp only [callAny]
  refine wpAny_bind (wpAny_load hu ?_)
  simp only [kxs_mw, show (Value.type "method-wrapper" == Value.type "method" || Value.type "method-wrapper" == Value.type "builtin_function_or_method" || Value.type "method-wrapper" == Value.type "method-wrapper") = true by decide, if_true]
  refine W.KFB.if_so (by decide) ?_
  refine wpAny_bind (check_bound_init F.excBase_ValueError.toExcCallFacts hC he rfl ?_)
  refine wpAny_bind (wpAny_pure (wpAny_pure ?_))
  refine ⟨Code.quiet_builtin _ (by decide +kernel), codeAny_builtin F.excBase_ValueError.initEntry ?_⟩
  rw [Around.under_plainId F.excBase_ValueError.init.plain _]
  wp_walk
  refine hq _ h.objs.size (fun b o hb ho => ?_) ?_ ?_
  · rw [Heap.get?_update_other _ _ (Ne.symm hb)]
    exact Heap.get?_push_of_some _ ho
  · first | simp | (rw [Heap.size_update, Heap.size_push]; omega)
  · rw [Heap.get?_update_self _ (Heap.get?_push_of_some _ he) rfl]
    rfl
end
/-- what __init__ leaves of a fresh exception at x -/
structure InitEnd (h h' : Heap) (x C dx : Addr) (f : Str) (v : Value) : Prop where
  keep : ∀ b o, b ≠ x → h.get? b = some o → h'.get? b = some o
  obj : ∃ t1 : Addr, h'.get? x = some { cls := .ref C, dict := some dx, data := .fields #[.ref t1, .none, .none, .none, .bool false, .none] }
  dbig : h.objs.size ≤ dx
  dne : dx ≠ x
  ns : h'.Ns1 dx (fun y => if y = f then some v else none)
structure OwnMade (h h' : Heap) (e C d : Addr) (f : Str) (v : Value) : Prop where
  keep : ∀ b o, h.get? b = some o → h'.get? b = some o
  new : h.objs.size ≤ e
  obj : ∃ oe vs, h'.get? e = some oe ∧ oe.cls = .ref C ∧ oe.dict = some d ∧ oe.data = .fields vs ∧ vs[1]? = some .none ∧ vs[2]? = some .none
  dbig : h.objs.size ≤ d
  dne : d ≠ e
  ns : h'.Ns1 d (fun y => if y = f then some v else none)
theorem kept_but {K : Frag} {h h' : Heap} {x : Addr} (X : K.In h) (hx : K.lookup x = none) (k : ∀ b o, b ≠ x → h.get? b = some o → h'.get? b = some o) : K.In h' := fun a o e =>
  k a o (fun z => by rw [z, hx] at e; cases e) (X a o e)
section
variable {prog : Program} {w : World} {A : Around} {E : Value → Shared → Prop} {R : Result → Shared → Prop} {s : Shared} {K : Frag} {mg : Str → Option Value} {base : Heap} {f : Str} {C fI : Addr}
theorem bnd (x v : Value) (f : Str) (hf : (f == ("self" : Str)) = false) : ((fun y => List.lookup y [(f, v), (("self" : Str), x)]) : Str → Option Value) "self" = some x ∧ ((fun y => List.lookup y [(f, v), (("self" : Str), x)]) : Str → Option Value) f = some v := by
  have : ((("self" : Str)) == f) = false := by rw [beq_eq_false_iff_ne] at hf ⊢; exact fun e => hf e.symm
  constructor
  · show List.lookup ("self" : Str) [(f, v), (("self" : Str), x)] = some x
    simp [List.lookup_cons, this]
  · show List.lookup f [(f, v), (("self" : Str), x)] = some v
    simp [List.lookup_cons]
theorem sup_eq {o : Expr} {m : Str} {apos pos p : Pos} {txt : Str} {j : Nat} {env : Env} (hl : (apos.endLine == pos.line) = true) :
    eval (.Call (.Attribute o m apos) [.Constant (.str txt) j p] [] pos) env = (do
      let ov ← attributeBase o m env (eval o env)
      standAt apos.atName
      let (f, first) ← holding [ov] (getMethod ov m (do return (← importBound o env).getD true))
      callWith pos f first (backTo pos (starEach [.Constant (.str txt) j p] env)) []) := by
  have few : methodCallForm ([(Expr.Constant (.str txt) j p)].length + ([] : List Keyword).length) (backTo pos (starEach [.Constant (.str txt) j p] env)) (backToKw pos (keywordEach [] env)) = true := rfl
  rw [arm_eval_Call]
  unfold methodCall calleeOf methodCallPos
  simp only [few, if_true, hl, Bool.not_true, Bool.false_or, pure_bind]
  rfl
theorem err_init (T : ErrTxt prog K mg f C fI) (G : L2.Mod K mg base) {x t0 : Addr} {v : Value} (X : K.In s.heap) (bk : ∀ b o, base.get? b = some o → s.heap.get? b = some o) (hlim : s.heap.NoLimit) (hx : s.heap.get? x = some (excO C t0)) (hnx : K.lookup x = none) (hroom : A.depth < recursionLimit)
    (hq : ∀ h' tk dx, InitEnd s.heap h' x C dx f v → R (.ok (.ret .none)) { s with heap := h', toks := tk }) :
    codeAny (model prog w) A (.call (.ref fI) ⟨[.ref x, v], []⟩) R s := by
  obtain ⟨hp, g, dr, tk, os⟩ := s
  obtain ⟨oc, od, doc, pm, an, ct, osl, txt, j, p1, p2, s0, s1, s2, s3, s4, s5, q1, q2, q3, q4, qual, cda, cc, ccl, cl, cdd, cld, ccs, csl, vs, file, tf, ho, hcd, hcda, hvs, hfile, hcell, hline, hbnd⟩ := T.fn
  obtain ⟨nm, qn, N, bs, bm, sn, sub, ab, col, dd, k0, k1, k2, k3, k5, hC, hbm⟩ := T.cls
  obtain ⟨f1, f2, f3, f4⟩ := T.fs
  have hcl : clsIn K C = some { name := nm, bases := bs, mro := .ref C :: bm, ns := N, qualname := qn, hasDict := true, slotNames := sn, subclasses := sub, abstract := ab, collection := col, hasDel := false } := by unfold clsIn; rw [hC] <;> rfl
  have f1' : (("self" : Str) == f) = false := by rw [beq_eq_false_iff_ne] at f1 ⊢; exact fun e => f1 e.symm
  have f2' : (("__class__" : Str) == f) = false := by rw [beq_eq_false_iff_ne] at f2 ⊢; exact fun e => f2 e.symm
  have f3' : (("super" : Str) == f) = false := by rw [beq_eq_false_iff_ne] at f3 ⊢; exact fun e => f3 e.symm
  have kSelf : (iS f).names.lookup ("self" : Str) = some .local := by show List.lookup ("self" : Str) ((("self" : Str), NameKind.local) :: _) = _; simp [List.lookup_cons]
  have kF : (iS f).names.lookup f = some .local := by show List.lookup f ((("self" : Str), NameKind.local) :: (f, NameKind.local) :: _) = _; simp [List.lookup_cons, f1]
  have kC' : (iS f).names.lookup ("__class__" : Str) = some .free := by
    show List.lookup ("__class__" : Str) ((("self" : Str), NameKind.local) :: (f, NameKind.local) :: (("__class__" : Str), NameKind.free) :: _) = _
    simp only [List.lookup_cons, f2', show (("__class__" : Str) == ("self" : Str)) = false by decide, beq_self_eq_true]
  have kS : (iS f).names.lookup ("super" : Str) = some .globalImplicit := by
    show List.lookup ("super" : Str) ((("self" : Str), NameKind.local) :: (f, NameKind.local) :: (("__class__" : Str), NameKind.free) :: (("super" : Str), NameKind.globalImplicit) :: []) = _
    simp only [List.lookup_cons, f3', show (("super" : Str) == ("self" : Str)) = false by decide, show (("super" : Str) == ("__class__" : Str)) = false by decide, beq_self_eq_true]
  refine ks_codeAny_call_defAt (fd := ksFn "__init__" qual (iA f p1 p2) (iB f txt j s0 s1 s2 s3 s4 s5 q1 q2 q3 q4) (iS f) .none .none doc pm an (.ref cda) ct cc) (binds := [("self", .ref x), (f, v)]) hroom (X _ _ ho) rfl hlim (codeRec_of X hcd) rfl
    (BindsTo.of_eq ?_) ?_ ?_ (fun h₁ hn k => ?_) rfl rfl rfl
  · exact hbnd _ _
  · intro y hy
    have hy : y ∈ (iS f).names := hy
    simp only [iS, List.mem_cons, List.not_mem_nil, or_false] at hy
    rcases hy with rfl | rfl | rfl | rfl <;> simp
  · intro y hy
    simp only [List.mem_cons, List.not_mem_nil, or_false] at hy
    rcases hy with rfl | rfl
    · exact kSelf
    · exact kF
  · have hn : h₁.Ns hp.objs.size (fun y => List.lookup y [(f, v), (("self" : Str), .ref x)]) := hn
    obtain ⟨b1, b2⟩ := bnd (.ref x) v f f1
    have X₁ : K.In h₁ := X.keeps k
    have hx₁ := k _ _ hx
    have hC₁ := X₁ _ _ hC
    obtain ⟨mb, gb1, gb2⟩ := G.blt
    have bk₁ : ∀ b o, base.get? b = some o → h₁.get? b = some o := fun b o e => k b o (bk b o e)
    have hkk : ∀ L : Addr, (callEnv (ksFn "__init__" qual (iA f p1 p2) (iB f txt j s0 s1 s2 s3 s4 s5 q1 q2 q3 q4) (iS f) .none .none doc pm an (.ref cda) ct cc) L fI) = ksEnv qual (iS f) L fI (.ref cda) cc := fun L => rfl
    rw [hkk]
    have e1 := X₁ _ _ ho
    have e2 := X₁ _ _ hcda
    have e3 := X₁ _ _ hcell
    -- super().__init__('..')
    show _root_.PySem.wpAt _ _ _ (execs (.Expr _ s5 :: [_]) _) _ _ _
    refine ks_wpAt_execs_cons (ks_wpAt_Expr_any (ks_wpAt_MethodCall ?_ (sup_eq hline)) rfl rfl)
    · refine ks_wpAt_super_base (s := ⟨h₁, g, dr, _, os⟩) (attr := "__init__") (env := ksEnv qual (iS f) hp.objs.size fI (.ref cda) cc) kS kC' (by decide) rfl e1 rfl rfl rfl e2 rfl hvs hfile T.top ?_
      refine ks_loadName_global rfl kS (loadGlobal_builtin (env := ksEnv qual (iS f) hp.objs.size fI (.ref cda) cc) (G.glob.keeps bk₁) T.gs (gb1.keeps bk₁) ((gb2 _ (by decide)).trans (by first | rfl | kernel_rfl)) ⟨rfl, ?_⟩)
      refine wpAny_loadName_free rfl kC' rfl ⟨_, e3, rfl⟩ ?_
      refine wpAny_loadName_local rfl kSelf hn b1 ?_
      refine ks_wpAny_isType_cls hC₁ rfl ⟨rfl, ?_⟩
      refine ks_wpAny_call_super hC₁ rfl hx₁ rfl (fun c e => by cases e) (looks_mroIn X₁ T.own) (fun h2 eS kk2 => ?_)
      have X₂ : K.In h2 := X₁.keeps kk2
      have hx₂ := kk2 _ _ hx₁
      have I : InstAt h2 x (excO C t0) C none := ⟨hx₂, rfl, rfl, trivial⟩
      have hsup := T.sup
      unfold ks_superIn at hsup
      rw [hcl] at hsup
      have hI : Looks (model prog w) h2 (isInstance (.ref x) (.type "ValueError")) true := I.type.andThen (looks_subIn X₂ T.hB)
      refine kxs_getMethod kxs_ValueError eS (looks_opaque X₂ T.no) (l₀ := .ref C :: bm) (fun A Q E s k q => wpAny_bind ((looks_clsIn X₂ hcl) A _ E s k (wpAny_pure q))) rfl X₂ hsup hI (ks_ne X₂ I hcl) rfl ?_
      refine kxs_callWith (i := "ValueError.__init__") (x := x) rfl (evalArgs_plain ?_)
      refine Calls.spliced_cons (Calls.Constant_str (k := j) (pos := s3) (Calls.spliced_nil ?_))
      have k3 : ∀ b o, h2.get? b = some o → (h2.push (kxs_mw "ValueError.__init__" x)).get? b = some o := fun b o e => Heap.get?_push_of_some _ e
      refine ⟨Heap.get?_push_at rfl rfl, ?_⟩
      refine call_mw (k3 _ _ (kk2 _ _ hC₁)) (k3 _ _ hx₂) (Heap.get?_push_at rfl rfl) (by rw [sizeLine_eq]; exact (by decide : 1 ≤ 16777216)) fun h4 t1 kk4 sz4 hx4 => ?_
      have hxL : hp.objs.size ≠ x := Nat.ne_of_gt (Heap.lt_size hx)
      have kall : ∀ b o, b ≠ x → hp.get? b = some o → h4.get? b = some o := fun b o hb e => kk4 b o hb (k3 _ _ (kk2 _ _ (k b o e)))
      have X₄ : K.In h4 := kept_but X hnx kall
      have hn4 : h4.Ns hp.objs.size (fun y => List.lookup y [(f, v), (("self" : Str), .ref x)]) := hn.at fun o e => kk4 _ _ hxL (k3 _ _ (kk2 _ _ e))
      have hsz : hp.objs.size < h4.objs.size := by
        obtain ⟨o, es, ep, e, _⟩ := hn4
        exact Heap.lt_size e
      -- self.f = f
      refine wpAt_of_wpAny ?_
      show wpAny _ _ (execs _ _) _ _ _
      refine wpAny_execs_cons (plainObj_wpAny_Assign_Attribute ?_)
      refine wpAny_Name (wpAny_loadName_local rfl kF hn4 b2 ?_) f4
      refine wpAny_Name (wpAny_loadName_local rfl kSelf hn4 b1 ?_) (by decide)
      refine set_plain X₄ (ox := excO C t1) (od := none) ⟨hx4, rfl, rfl, trivial⟩ T.sa ?_
      refine exc_osa X₄ hx4 hcl (show refsVE (.ref C :: bm) = true from hbm) rfl T.noN (fun h₅ tk₅ dx k₅ dn dne hx₅ hn₅ => ?_)
      show wpAny _ _ (execs _ _) _ _ _
      exact wpAny_execs_nil (hq h₅ tk₅ dx ⟨fun b o hb e => k₅ b o hb (kall b o hb e), ⟨t1, hx₅⟩, Nat.le_of_lt (Nat.lt_of_lt_of_le hsz dn), dne, hn₅⟩)
theorem err_made (T : ErrTxt prog K mg f C fI) (G : L2.Mod K mg base) {v : Value} (X : K.In s.heap) (bk : ∀ b o, base.get? b = some o → s.heap.get? b = some o) (hlim : s.heap.NoLimit) (hroom : A.depth + 1 < recursionLimit)
    (hq : ∀ h' tk e d, OwnMade s.heap h' e C d f v → R (.ok (.ret (.ref e))) { s with heap := h', toks := tk }) :
    codeAny (model prog w) A (.call (.ref C) ⟨[v], []⟩) R s := by
  obtain ⟨nm, q, N, bs, bm, sn, sub, ab, col, dd, k0, k1, k2, k3, k5, hC, hbm⟩ := T.cls
  obtain ⟨hp, g, dr, tk, os⟩ := s
  have k : ∀ b o, hp.get? b = some o → ((hp.push (kdv_tup [v])).push (excO C hp.objs.size)).get? b = some o := fun b o e => Heap.get?_push_of_some _ (Heap.get?_push_of_some _ e)
  have hget : ((hp.push (kdv_tup [v])).push (excO C hp.objs.size)).get? (hp.objs.size + 1) = some (excO C hp.objs.size) := by heap_get
  have hnx : K.lookup (hp.objs.size + 1) = none := by
    cases e : K.lookup (hp.objs.size + 1) with
    | none => rfl
    | some o =>
      have z : hp.get? (hp.objs.size + 1) = some o := X _ _ e
      exact absurd (Nat.lt_of_succ_lt (Heap.lt_size z)) (Nat.lt_irrefl _)
  refine call_own F.excBase_ValueError (fun X => refsVE_contains X bm hbm) (X _ _ hC) (looks_findIn X T.iC) (fun self => bind_fn X self T.tC) (by rw [sizeLine_eq]; exact (by decide : 1 ≤ 16777216)) ?_
  refine err_init (s := ⟨(hp.push (kdv_tup [v])).push (excO C hp.objs.size), g, dr, tk, os⟩) T G (X.keeps k) (fun b o e => k b o (bk b o e)) (hlim.keeps k) hget hnx ?_ fun h' tk' dx ⟨k', ⟨t1, hx⟩, dn, dne, hns⟩ => ?_
  · show A.depth + 1 < recursionLimit
    exact hroom
  · have old : ∀ b o, hp.get? b = some o → h'.get? b = some o := fun b o e => k' b o (Nat.ne_of_lt (Nat.lt_succ_of_lt (Heap.lt_size e))) (k b o e)
    have z : hp.objs.size + 1 + 1 ≤ dx := by
      first
        | (simpa only [Heap.size_push] using dn)
        | exact dn
        | (have q := dn; rw [Heap.size_push, Heap.size_push] at q; exact q)
    exact ⟨rfl, hq h' tk' (hp.objs.size + 1) dx ⟨old, Nat.le_succ _, ⟨_, _, hx, rfl, rfl, rfl, rfl, rfl⟩, Nat.le_trans (Nat.le_trans (Nat.le_succ _) (Nat.le_succ _)) z, dne, hns⟩⟩
end
end ErrX
end PySem
namespace Z
open PySem L2
theorem relO_err {f0 : Str} {v : V} {v' : Value} (r : RelV v v') (f : Str) : RelO (List.lookup f [(f0, v)]) (if f = f0 then some v' else none) := by
  by_cases hw : f = f0
  · subst hw
    rw [if_pos rfl]
    have q : List.lookup f [(f, v)] = some v := by simp [List.lookup]
    rw [q]
    exact r
  · rw [if_neg hw]
    have qw : (f == f0) = false := by simpa using hw
    have q2 : List.lookup f [(f0, v)] = none := by simp [List.lookup, qw]
    rw [q2]
    trivial
section
variable {q : Bool} {X : Cx} {c : Cz} {z : Ez} {W : WX} {B : Bs} {P : Prg} {cl : Call}
/-- E(e), an error of its own with a field f -/
def tMkErr (C : Addr) (f : Str) (ta : TA) : St → Hp → XK → Prop := fun σ H Q => ta σ H fun vs H1 => ∃ v, vs = [v] ∧ ∀ d, H1 d = none → Q (.ref C) (some d) (upd H1 d (.xd [(f, v)]))
theorem pmk_err {f x : Str} {C fI : Addr} {a : PySem.Expr} {ta : TA} {p pos : Pos} {k : Nat} (T : PySem.ErrX.ErrTxt X.prog X.K X.mg f C fI) (hr : Room k X.A) (ha : PA X [a] ta) (hm : X.mg x = some (.ref C)) (hg : Gl X x) (hd : (x == ("__debug__" : Str)) = false)
    (he : starEach (a :: []) X.env = (false, eval a X.env) :: starEach [] X.env) : L2N.PMk X (.Call (.Name x p) [a] [] pos) (tMkErr C f ta) := by
  intro pins s σ H Q I h
  refine wpAny_Call_Name_kw (ld_glob I hg hm ?_ hd)
  refine PySem.W.callWith_K (h₀ := X.base) I.ok.mod.kin T.kC (thn (ha.run pos pins s σ H _ I h) fun us s1 hh => ?_) he rfl
  obtain ⟨vs, H1, I1, r1, v, ev, q1⟩ := hh
  subst ev
  refine ⟨I1.kIn, ?_⟩
  cases r1 with
  | cons rv rn =>
    rename_i v' us'
    cases rn
    show wpAny _ _ (call (.ref C) [v']) _ _ _
    have hlim := I1.nolimit
    have bk := I1.bk
    have kin := I1.kIn
    obtain ⟨hp, g, dr, tk, os⟩ := s1
    refine wpAny_call (PySem.ErrX.err_made T I.ok.mod kin bk hlim (by have := hr.dp; omega) fun h' tk' e d M => ?_)
    show L2N.MkP X pins σ Q (.ref e) ⟨h', g, dr, tk', os⟩
    obtain ⟨oe, fv, hoe, hc, hd, hdat, h1, h2⟩ := M.obj
    have hns := M.ns
    obtain ⟨G', g1, g2⟩ := restrict h' fun b => decide (b ≠ e)
    have gk : ∀ b, b ≠ e → G'.get? b = h'.get? b := fun b hb => g1 b (decide_eq_true hb)
    have ge : G'.get? e = none := g2 e (by simp)
    have old : ∀ b o, hp.get? b = some o → G'.get? b = some o := fun b o q => (gk b (Nat.ne_of_lt (Nat.lt_of_lt_of_le (Heap.lt_size q) M.new))).trans (M.keep b o q)
    have ob : ObjOk X.prog X.w (upd H1 d (.xd [(f, v)])) G' d (.xd [(f, v)]) :=
      ⟨_, hns.at (fun o q => (gk d M.dne).trans q), fun f => relO_err rv f⟩
    have J : Inv X pins σ (upd H1 d (.xd [(f, v)])) ⟨G', g, dr, tk', os⟩ := I1.laid (t' := tk') old M.dbig ob
    refine ⟨e, oe, fv, ⟨G', g, dr, tk', os⟩, _, .ref C, some d, rfl, J, fun b o q => ?_, ge, hoe, ⟨hc, hd, fun vs e => by rw [hdat] at e; cases e; exact h2⟩, hdat, h1, ?_, rfl, I1.bare, raises_own T.exC T.tyC, q1 d (I1.hok.fresh M.dbig)⟩
    · by_cases hb : b = e
      · have q' : G'.get? b = some o := q
        rw [hb, ge] at q'; cases q'
      · exact (gk b hb).symm.trans q
    · rw [upd_ne (Ne.symm M.dne)]
      exact I1.hok.fresh M.new
/-- the error k stands at ea k, its field is ef k -/
structure ErrZ (X : Cx) (z : Ez) (k : Nat) : Prop where
  ex : ∃ fI, PySem.ErrX.ErrTxt X.prog X.K X.mg (z.ef k) (z.ea k) fI
theorem s_raise {k : Nat} {x : Str} {e : E} {e' : PySem.Expr} {p pos pos2 : Pos} {kk : Nat} (ok : Ok q X c z W) (hq : q = true) (T : ErrZ X z k) (hr : Room kk X.A) (hm : X.mg x = some (.ref (z.ea k))) (hg : glB X.env.scope.names x = true) (hp : plainB e' = true) (he : PE X e' (tE c z W (evE P cl e))) :
    PS X (.Raise (some (.Call (.Name x p) [e'] [] pos)) none pos2) (tS c z W B (evS P cl (.raise_ k e))) := by
  obtain ⟨g1, g2, g3⟩ := glB_ok hg
  obtain ⟨fI, T⟩ := T.ex
  refine PS.imp (L2N.ps_raise (ok.calm hq) ok.tk (pmk_err T hr (pa_cons he pa_nil (plain_star hp)) hm g1 g2 (plain_star hp))) fun Dn τ H ⟨w, σ, M, s, h⟩ => ?_
  rw [evS] at h
  refine tE_st s h fun w1 M1 H1 d v k1 s1 r1 h1 => ?_
  refine ⟨v, rfl, fun dd hd => ?_⟩
  have th : ∀ a, upd H1 dd (.xd [(z.ef k, v)]) a = none → H1 a = none := fun a h => upd_none h
  obtain ⟨f1, f2⟩ := s1.m.fresh hd
  exact h1 w1 τ _ dd v (s1.keep (keep_upd s1.m hd) (s1.m.upd hd)) r1 upd_same f1 f2
end
end Z


set_option Elab.async false
set_option linter.all false
set_option autoImplicit false
set_option maxRecDepth 100000
set_option maxHeartbeats 4000000
namespace Z
open PySem L2

/-! ### the exception that a suite holds is no part of how data lie -/
abbrev Cz.at (c : Cz) (y : Addr → Nat → Addr → Str → Prop) : Cz := { c with xa := y }
section
variable {c : Cz} {y : Addr → Nat → Addr → Str → Prop} {w : Wd}
mutual
theorem R_xa : ∀ (d : D) (v : V), R c w d v → R (c.at y) w d v
  | .non, _, r => r
  | .bl _, _, r => r
  | .int _, _, r => r
  | .str _, _, r => r
  | .tup ds, _, ⟨a, xs, e, q, r⟩ => ⟨a, xs, e, q, Rs_xa ds xs r⟩
  | .lst ds, _, ⟨a, xs, e, q, r⟩ => ⟨a, xs, e, q, Rs_xa ds xs r⟩
  | .frl ds, _, ⟨a, xs, e, q, r⟩ => ⟨a, xs, e, q, Rs_xa ds xs r⟩
  | .dct _ vs, _, ⟨a, kvs, e, q, z, z', r⟩ => ⟨a, kvs, e, q, z, z', Rs_xa vs _ r⟩
  | .obj _ _ vs, _, ⟨a, dx, fs, e, q, z, r⟩ => ⟨a, dx, fs, e, q, z, Rs_xa vs _ r⟩
  | .ref n, _, r => r
theorem Rs_xa : ∀ (ds : List D) (vs : List V), Rs c w ds vs → Rs (c.at y) w ds vs
  | [], _, r => r
  | d :: ds, _, ⟨x, xs, e, r, q⟩ => ⟨x, xs, e, R_xa d x r, Rs_xa ds xs q⟩
end
mutual
theorem R_ax : ∀ (d : D) (v : V), R (c.at y) w d v → R c w d v
  | .non, _, r => r
  | .bl _, _, r => r
  | .int _, _, r => r
  | .str _, _, r => r
  | .tup ds, _, ⟨a, xs, e, q, r⟩ => ⟨a, xs, e, q, Rs_ax ds xs r⟩
  | .lst ds, _, ⟨a, xs, e, q, r⟩ => ⟨a, xs, e, q, Rs_ax ds xs r⟩
  | .frl ds, _, ⟨a, xs, e, q, r⟩ => ⟨a, xs, e, q, Rs_ax ds xs r⟩
  | .dct _ vs, _, ⟨a, kvs, e, q, z, z', r⟩ => ⟨a, kvs, e, q, z, z', Rs_ax vs _ r⟩
  | .obj _ _ vs, _, ⟨a, dx, fs, e, q, z, r⟩ => ⟨a, dx, fs, e, q, z, Rs_ax vs _ r⟩
  | .ref n, _, r => r
theorem Rs_ax : ∀ (ds : List D) (vs : List V), Rs (c.at y) w ds vs → Rs c w ds vs
  | [], _, r => r
  | d :: ds, _, ⟨x, xs, e, r, q⟩ => ⟨x, xs, e, R_ax d x r, Rs_ax ds xs q⟩
end
theorem MOr_xa {o : HO} {mo : MO} (r : MOr c w o mo) : MOr (c.at y) w o mo := by
  cases mo with
  | lst ds => obtain ⟨vs, e, r⟩ := r; exact ⟨vs, e, Rs_xa _ _ r⟩
  | dct ks ds => obtain ⟨kvs, e, z, z', r⟩ := r; exact ⟨kvs, e, z, z', Rs_xa _ _ r⟩
  | ins k ns ds => obtain ⟨dx, fs, e, z, r⟩ := r; exact ⟨dx, fs, e, z, Rs_xa _ _ r⟩
theorem MOr_ax {o : HO} {mo : MO} (r : MOr (c.at y) w o mo) : MOr c w o mo := by
  cases mo with
  | lst ds => obtain ⟨vs, e, r⟩ := r; exact ⟨vs, e, Rs_ax _ _ r⟩
  | dct ks ds => obtain ⟨kvs, e, z, z', r⟩ := r; exact ⟨kvs, e, z, z', Rs_ax _ _ r⟩
  | ins k ns ds => obtain ⟨dx, fs, e, z, r⟩ := r; exact ⟨dx, fs, e, z, Rs_ax _ _ r⟩
theorem MR_xa {M : Sto} {H : Hp} (m : MR c w M H) : MR (c.at y) w M H := ⟨m.nx, m.sub, fun n mo h => let ⟨h1, h2, o, h3, h4⟩ := m.st n mo h; ⟨h1, h2, o, h3, MOr_xa h4⟩, m.inj⟩
theorem MR_ax {M : Sto} {H : Hp} (m : MR (c.at y) w M H) : MR c w M H := ⟨m.nx, m.sub, fun n mo h => let ⟨h1, h2, o, h3, h4⟩ := m.st n mo h; ⟨h1, h2, o, h3, MOr_ax h4⟩, m.inj⟩
theorem RB_xa {M : Sto} {H : Hp} {d : D} {v : V} (r : RB c w M H d v) : RB (c.at y) w M H d v := r.elim (fun r => .inl (R_xa _ _ r)) fun ⟨p, o, mo, e, h2, h3, h4, h5, h6⟩ => .inr ⟨p, o, mo, e, h2, MOr_xa h3, h4, h5, h6⟩
theorem RB_ax {M : Sto} {H : Hp} {d : D} {v : V} (r : RB (c.at y) w M H d v) : RB c w M H d v := r.elim (fun r => .inl (R_ax _ _ r)) fun ⟨p, o, mo, e, h2, h3, h4, h5, h6⟩ => .inr ⟨p, o, mo, e, h2, MOr_ax h3, h4, h5, h6⟩
theorem StB.xa {B : Bs} {σ : List SV} {M : Sto} {τ : St} {H : Hp} (s : StB c B w σ M τ H) (hx : ∀ (i k : Nat) (d : D), σ[i]? ≠ some (SV.exc k d)) : StB (c.at y) B w σ M τ H :=
  ⟨s.kp, MR_xa s.m, s.len, fun i d e => let ⟨v, h1, h2⟩ := s.val i d e; ⟨v, h1, R_xa _ _ h2⟩, fun i d e => let ⟨v, h1, h2⟩ := s.brw i d e; ⟨v, h1, RB_xa h2⟩,
    fun i mo e => let ⟨p, o, h1, h2, h3, h4⟩ := s.own i mo e; ⟨p, o, h1, h2, MOr_xa h3, h4⟩, s.dis, fun i k d e => absurd e (hx i k d), s.pin⟩
theorem StB.ax {B : Bs} {σ : List SV} {M : Sto} {τ : St} {H : Hp} (s : StB (c.at y) B w σ M τ H) (hx : ∀ (i k : Nat) (d : D), σ[i]? ≠ some (SV.exc k d)) : StB c B w σ M τ H :=
  ⟨s.kp, MR_ax s.m, s.len, fun i d e => let ⟨v, h1, h2⟩ := s.val i d e; ⟨v, h1, R_ax _ _ h2⟩, fun i d e => let ⟨v, h1, h2⟩ := s.brw i d e; ⟨v, h1, RB_ax h2⟩,
    fun i mo e => let ⟨p, o, h1, h2, h3, h4⟩ := s.own i mo e; ⟨p, o, h1, h2, MOr_ax h3, h4⟩, s.dis, fun i k d e => absurd e (hx i k d), s.pin⟩
theorem StB.setE {B : Bs} {σ : List SV} {M : Sto} {τ : St} {H : Hp} (s : StB c B w σ M τ H) {i k : Nat} {d : D} {a dd : Addr} {f : Str} {v : V} (hx : c.xa a k dd f) (hd : H dd = some (.xd [(f, v)])) (rv : R c w d v) (h1 : w.F dd = none) (h2 : ¬ InM w M dd) :
    StB c B w (σ.set i (.exc k d)) M (τ.set i (some (.ref a))) H := by
  refine ⟨s.kp, s.m, by simp [s.len], fun j d e => ?_, fun j d e => ?_, fun j mo e => ?_, fun j k mo mo' e1 e2 e3 => ?_, fun j k' d' e => ?_, s.pin⟩
  · rcases set_cases e with ⟨rfl, q⟩ | ⟨n, q⟩
    · cases q
    · obtain ⟨u, h1, h2⟩ := s.val j d q
      exact ⟨u, by rw [List.getElem?_set_ne (Ne.symm n)]; exact h1, h2⟩
  · rcases set_cases e with ⟨rfl, q⟩ | ⟨n, q⟩
    · cases q
    · obtain ⟨u, h1, h2⟩ := s.brw j d q
      exact ⟨u, by rw [List.getElem?_set_ne (Ne.symm n)]; exact h1, h2⟩
  · rcases set_cases e with ⟨rfl, q⟩ | ⟨n, q⟩
    · cases q
    · obtain ⟨p, o, h1, h2⟩ := s.own j mo q
      exact ⟨p, o, by rw [List.getElem?_set_ne (Ne.symm n)]; exact h1, h2⟩
  · rcases set_cases e1 with ⟨rfl, q⟩ | ⟨n, q⟩
    · cases q
    · rcases set_cases e2 with ⟨rfl, q2⟩ | ⟨n2, q2⟩
      · cases q2
      · rw [List.getElem?_set_ne (Ne.symm n), List.getElem?_set_ne (Ne.symm n2)] at e3
        exact s.dis j k mo mo' q q2 e3
  · have hl := set_lt e
    rcases set_cases e with ⟨rfl, q⟩ | ⟨n, q⟩
    · cases q
      exact ⟨a, dd, f, v, by rw [List.getElem?_set_self (by rw [← s.len]; exact hl)], hx, hd, rv, h1, h2⟩
    · obtain ⟨a, dd, f, u, h1, h2⟩ := s.exc j k' d' q
      exact ⟨a, dd, f, u, by rw [List.getElem?_set_ne (Ne.symm n)]; exact h1, h2⟩
/-- a name goes -/
theorem StB.gone {B : Bs} {σ : List SV} {M : Sto} {τ : St} {H : Hp} (s : StB c B w σ M τ H) (i : Nat) : StB c B w (σ.set i .non) M (τ.set i none) H := by
  refine ⟨s.kp, s.m, by simp [s.len], fun j d e => ?_, fun j d e => ?_, fun j mo e => ?_, fun j k mo mo' e1 e2 e3 => ?_, fun j k' d' e => ?_, s.pin⟩
  · rcases set_cases e with ⟨rfl, q⟩ | ⟨n, q⟩
    · cases q
    · obtain ⟨u, h1, h2⟩ := s.val j d q
      exact ⟨u, by rw [List.getElem?_set_ne (Ne.symm n)]; exact h1, h2⟩
  · rcases set_cases e with ⟨rfl, q⟩ | ⟨n, q⟩
    · cases q
    · obtain ⟨u, h1, h2⟩ := s.brw j d q
      exact ⟨u, by rw [List.getElem?_set_ne (Ne.symm n)]; exact h1, h2⟩
  · rcases set_cases e with ⟨rfl, q⟩ | ⟨n, q⟩
    · cases q
    · obtain ⟨p, o, h1, h2⟩ := s.own j mo q
      exact ⟨p, o, by rw [List.getElem?_set_ne (Ne.symm n)]; exact h1, h2⟩
  · rcases set_cases e1 with ⟨rfl, q⟩ | ⟨n, q⟩
    · cases q
    · rcases set_cases e2 with ⟨rfl, q2⟩ | ⟨n2, q2⟩
      · cases q2
      · rw [List.getElem?_set_ne (Ne.symm n), List.getElem?_set_ne (Ne.symm n2)] at e3
        exact s.dis j k mo mo' q q2 e3
  · rcases set_cases e with ⟨rfl, q⟩ | ⟨n, q⟩
    · cases q
    · obtain ⟨a, dd, f, u, h1, h2⟩ := s.exc j k' d' q
      exact ⟨a, dd, f, u, by rw [List.getElem?_set_ne (Ne.symm n)]; exact h1, h2⟩
theorem noX_ok {σ : List SV} (h : noX σ = true) : ∀ (i k : Nat) (d : D), σ[i]? ≠ some (SV.exc k d) := fun i k d e => by
  have := List.all_eq_true.mp h _ (List.mem_of_getElem? e)
  simp at this
end
/-- readings of the exception that is held -/
structure XaOk (X : Cx) (c : Cz) (z : Ez) (P : Prg) : Prop where
  ef : ∀ k, z.ef k = c.an (P.exf k)
  nm : ∀ a k dd f, c.xa a k dd f → f = z.ef k
  fld : ∀ (e : PySem.Expr) (te : TE) (f : Str) (pos : Pos), baseB e = true → PE X e te → PE X (.Attribute e f pos) fun σ H Q => te σ H fun x H1 => ∃ a k dd v, x = .ref a ∧ c.xa a k dd f ∧ H1 dd = some (.xd [(f, v)]) ∧ Q v H1
  isi : CallR X (.builtin "isinstance") fun xs H Q => ∃ (a : Addr) (k : Nat) (dd : Addr) (f : Str) (v : V) (b : Bool) (cv : V) (t : Ty), xs = [.ref a, cv] ∧ c.xa a k dd f ∧ H dd = some (.xd [(f, v)]) ∧ ClsV cv (tyVal c z t) ∧ PySem.W.kitOne X.K (.ref (z.ea k)) (tyVal c z t) = some b ∧ Q (.bl b) H
  isiT : CallR X (.builtin "isinstance") fun xs H Q => ∃ (a : Addr) (k : Nat) (dd : Addr) (f : Str) (v : V) (b : Bool) (tp : Addr) (cs : List V) (us : List Value), xs = [.ref a, .ref tp] ∧ c.xa a k dd f ∧ H dd = some (.xd [(f, v)]) ∧ H tp = some (.tup cs) ∧ Paired ClsV cs us ∧ PySem.W.kitAny X.K (.ref (z.ea k)) us = some b ∧ Q (.bl b) H
section
variable {q : Bool} {X : Cx} {c : Cz} {z : Ez} {W : WX} {B : Bs} {P : Prg} {cl : Call}
theorem e_exf {i f : Nat} {x : Str} {p pos : Pos} (xo : XaOk X c z P) (hi : X.N[i]? = some x) (hv : Vis X.env.scope x) (h1 : (x == ("__debug__" : Str)) = false) (h2 : (x == ("__classdict__" : Str)) = false) :
    PE X (.Attribute (.Name x p) (c.an f) pos) (tE c z W (evE P cl (.exf i f))) := by
  refine PE.imp (xo.fld (.Name x p) _ (c.an f) pos rfl (pe_var hi hv h1 h2)) fun τ H Q ⟨w, σ, M, s, h⟩ => ?_
  rw [evE] at h
  split at h
  · rename_i k d e
    by_cases ef : P.exf k = f
    · rw [if_pos ef] at h
      obtain ⟨a, dd, f', v, g1, g2, g3, g4, g5, g6⟩ := s.s.exc i k d e
      have en : f' = c.an f := by rw [xo.nm _ _ _ _ g2, xo.ef, ef]
      subst en
      exact ⟨.ref a, g1, a, k, dd, v, rfl, g2, g3, Sat.here h s.m g4⟩
    · rw [if_neg ef] at h; exact h.elim
  · exact h.elim
theorem e_exi {i : Nat} {t : Ty} {x : Str} {p p2 pos : Pos} {b' : PySem.Expr} (ok : Ok q X c z W) (A : IsaZ X c z P) (xo : XaOk X c z P) (hg : glB X.env.scope.names "isinstance" = true) (hi : X.N[i]? = some x) (hv : Vis X.env.scope x) (h1 : (x == ("__debug__" : Str)) = false) (h2 : (x == ("__classdict__" : Str)) = false)
    (hp2 : plainB b' = true) (ht : TyN X c z t b') : PE X (.Call (.Name "isinstance" p) [.Name x p2, b'] [] pos) (tE c z W (evE P cl (.exi i [t]))) := by
  obtain ⟨g1, g2, g3⟩ := glB_ok hg
  obtain ⟨v, hv2, cv⟩ := ht.ex
  have pa : PA X [.Name x p2, b'] (tCons (tVar i) (tCons (tC v) tNil)) := pa_cons (pe_var hi hv h1 h2) (pa_cons hv2 pa_nil (plain_star hp2)) (plain_star rfl)
  refine PE.imp (pe_callB (x := "isinstance") xo.isi g1 (ok.bn _ (by decide)) (by decide) pa (by decide) (by decide) (plain_star rfl) (nos_any (by simp [hp2]))) fun τ H Q ⟨w, σ, M, s, h⟩ => ?_
  rw [evE] at h
  split at h
  · rename_i k d e
    obtain ⟨b, hb, h⟩ := match_sat h
    obtain ⟨a, dd, f', u, k1, k2, k3, k4, k5, k6⟩ := s.s.exc i k d e
    have e2 : PySem.W.kitOne X.K (tyVal c z (.exc k)) (tyVal c z t) = some b := by
      unfold isAny at hb
      cases e : P.isa (.exc k) t with
      | none => rw [e] at hb; cases hb
      | some b' =>
        rw [e] at hb
        rw [A.ans _ _ _ e]
        cases b' with
        | true => exact hb
        | false => exact hb
    exact ⟨.ref a, k1, a, k, dd, f', u, b, v, t, rfl, k2, k3, cv, e2, Sat.here h s.m rfl⟩
  · exact h.elim
theorem kit2 {t0 t1 t2 : Ty} {b : Bool} (A : IsaZ X c z P) (hb : isAny P t0 [t1, t2] = some b) : PySem.W.kitAny X.K (tyVal c z t0) [tyVal c z t1, tyVal c z t2] = some b := by
  unfold isAny isAny isAny at hb
  cases e1 : P.isa t0 t1 with
  | none => rw [e1] at hb; cases hb
  | some b1 =>
    rw [e1] at hb
    refine kitAny_cons (A.ans _ _ _ e1) (fun hf => ?_) (fun ht => ?_)
    · subst hf
      cases e2 : P.isa t0 t2 with
      | none => rw [e2] at hb; cases hb
      | some b2 =>
        rw [e2] at hb
        refine kitAny_cons (A.ans _ _ _ e2) (fun hf => ?_) (fun ht => ?_)
        · subst hf; cases hb; exact kitAny_nil
        · subst ht; cases hb; rfl
    · subst ht; cases hb; rfl
theorem e_exi2 {i : Nat} {t1 t2 : Ty} {x : Str} {p p2 p3 pos : Pos} {kk : Nat} {b1 b2 : PySem.Expr} (ok : Ok q X c z W) (A : IsaZ X c z P) (xo : XaOk X c z P) (hg : glB X.env.scope.names "isinstance" = true) (hi : X.N[i]? = some x) (hv : Vis X.env.scope x) (h1 : (x == ("__debug__" : Str)) = false) (h2 : (x == ("__classdict__" : Str)) = false)
    (hp1 : plainB b1 = true) (hp2 : plainB b2 = true) (ht1 : TyN X c z t1 b1) (ht2 : TyN X c z t2 b2) : PE X (.Call (.Name "isinstance" p) [.Name x p2, .Tuple [b1, b2] kk p3] [] pos) (tE c z W (evE P cl (.exi i [t1, t2]))) := by
  obtain ⟨g1, g2, g3⟩ := glB_ok hg
  obtain ⟨v1, hv1, cv1⟩ := ht1.ex
  obtain ⟨v2, hv2, cv2⟩ := ht2.ex
  have pt := pe_tup (x1 := kk) (pos := p3) (pa_cons hv1 (pa_cons hv2 pa_nil (plain_star hp2)) (plain_star hp1))
  have pa : PA X [.Name x p2, .Tuple [b1, b2] kk p3] (tCons (tVar i) (tCons (tTup (tCons (tC v1) (tCons (tC v2) tNil))) tNil)) := pa_cons (pe_var hi hv h1 h2) (pa_cons pt pa_nil (plain_star rfl)) (plain_star rfl)
  refine PE.imp (pe_callB (x := "isinstance") xo.isiT g1 (ok.bn _ (by decide)) (by decide) pa (by decide) (by decide) (plain_star rfl) (nos_any (by rfl))) fun τ H Q ⟨w, σ, M, s, h⟩ => ?_
  rw [evE] at h
  split at h
  · rename_i k d e
    obtain ⟨b, hb, h⟩ := match_sat h
    obtain ⟨a, dd, f', u, k1, k2, k3, k4, k5, k6⟩ := s.s.exc i k d e
    refine ⟨.ref a, k1, by show 2 ≤ sizeLine; decide, fun p hp => ?_⟩
    have hq := h (w.add p (.tup [v1, v2])) (upd H p (.tup [v1, v2])) (.bl b) (keep_add s.m hp) (s.m.add hp) rfl
    exact ⟨a, k, dd, f', u, b, p, _, _, rfl, k2, by rw [upd_ne (ne_of_none k3 hp)]; exact k3, upd_same, .cons cv1 (.cons cv2 .nil), kit2 A hb, hq⟩
  · exact h.elim
end
end Z


set_option Elab.async false
set_option linter.all false
set_option autoImplicit false
set_option maxRecDepth 100000
set_option maxHeartbeats 4000000
namespace Z
open PySem L2

/-! ### calls within an except suite -/
/-- the def f stands at fa and keeps its promise there, all its parameters given -/
structure FnZH (X : Cx) (c : Cz) (z : Ez) (P : Prg) (cl : Call) (f : Nat) (fa : Addr) : Prop where
  ex : ∃ (k : Nat) (fd : FuncData) (ps : List Str), L2H.FnH X.prog X.w X.K X.mg X.base (L2N.CX X.prog X.w) k fa fd ps (spOf c z P cl f) ∧ L2H.RoomH (k + 1) X.A ∧ ps.length = P.ar f ∧ (P.ar f = ps.length → Binds X.K fd ps [])
  kp : PySem.W.keepIn X.K (.ref fa) = true
section
variable {c : Cz} {z : Ez} {E : XK} {w : Wd} {M : Sto} {H : Hp} {Q : VK} {y : Addr → Nat → Addr → Str → Prop}
theorem R_xb {d : D} {v : V} (r : R (c.at y) w d v) : R c w d v := R_xa (c := c.at y) (y := c.xa) d v r
theorem MR_xb (m : MR (c.at y) w M H) : MR c w M H := MR_xa (c := c.at y) (y := c.xa) m
theorem RB_xb {d : D} {v : V} (r : RB (c.at y) w M H d v) : RB c w M H d v := RB_xa (c := c.at y) (y := c.xa) r
theorem Rf_xb : ∀ {fl : List Bool} {ds : List D} {vs : List V}, Rf (c.at y) w M H fl ds vs → Rf c w M H fl ds vs
  | _, [], _, r => r
  | fl, d :: ds, _, ⟨x, xs, e, r, q⟩ => ⟨x, xs, e, r.elim (fun r => .inl (R_xb r)) fun r => .inr ⟨r.1, RB_xb r.2⟩, Rf_xb q⟩
theorem Sat_xb {r : Res} (h : Sat (c.at y) z E w M H r Q) : Sat c z E w M H r Q := by
  cases r with
  | ok d M' => exact fun w' H' v k m r => h w' H' v k (MR_xa m) (R_xa _ _ r)
  | exc k d M' => exact fun w' H' dd v kk m r h1 h2 h3 => h w' H' dd v kk (MR_xa m) (R_xa _ _ r) h1 h2 h3
  | bad => exact h
theorem spOf_xb {P : Prg} {cl : Call} {f : Nat} {vs : List V} (h : spOf (c.at y) z P cl f vs H Q E) : spOf c z P cl f vs H Q E := by
  obtain ⟨w, M, ds, m, r, hl, s⟩ := h
  exact ⟨w, M, ds, MR_xb m, Rf_xb r, hl, Sat_xb s⟩
end
theorem FnH.imp {P : Program} {w : World} {K : PySem.W.Frag} {mg : Str → Option Value} {base : Heap} {CX : CXT} {k : Nat} {f : Addr} {fd : FuncData} {ps : List Str} {sp sp' : Sp} (F : L2H.FnH P w K mg base CX k f fd ps sp) (h : ∀ vs H Q E, sp' vs H Q E → sp vs H Q E) :
    L2H.FnH P w K mg base CX k f fd ps sp' :=
  ⟨fun vs H Q E q => F.len vs H Q E (h _ _ _ _ q), fun A outer s H args us vs Q E p a b c' d e g q => F.run A outer s H args us vs Q E p a b c' d e g (h _ _ _ _ q)⟩
section
variable {q : Bool} {X : Cx} {c : Cz} {z : Ez} {W : WX} {P : Prg} {cl : Call}
theorem FnZH.at {f : Nat} {fa : Addr} (F : FnZH X c z P cl f fa) (y : Addr → Nat → Addr → Str → Prop) : FnZH X (c.at y) z P cl f fa :=
  let ⟨k, fd, ps, h1, h2, h3, h4⟩ := F.ex
  ⟨⟨k, fd, ps, FnH.imp h1 fun _ _ _ _ => spOf_xb, h2, h3, h4⟩, F.kp⟩
theorem e_hcall {f : Nat} {fa : Addr} {x : Str} {as : Es} {e' : PySem.Expr} {as' : List PySem.Expr} {p pos : Pos} (ok : Ok q X c z W) (hc : L2H.HotC X) (F : FnZH X c z P cl f fa) (hm : X.mg x = some (.ref fa)) (hg : glB X.env.scope.names x = true) (hp : plainB e' = true) (hp2 : as'.all plainB = true)
    (hf : leF (flg as) (P.brw f) = true) (ha : PA X (e' :: as') (tF c z W (flg as) (evEs P cl as))) : PE X (.Call (.Name x p) (e' :: as') [] pos) (tE c z W (evE P cl (.hcall f as))) := by
  obtain ⟨g1, g2, g3⟩ := glB_ok hg
  refine ⟨fun pins s τ H Q I h => ?_⟩
  obtain ⟨w, σ, M, st, h⟩ := h
  rw [evE] at h
  refine wpAny_Call_Name_kw (ld_glob I g1 hm ?_ g2)
  refine PySem.W.callWith_K (h₀ := X.base) I.ok.mod.kin F.kp (thn (ha.run pos pins s τ H (fun vs H1 => ∃ w1 M1 ds, MR c w1 M1 H1 ∧ Rf c w1 M1 H1 (flg as) ds vs ∧ Sat c z (fun cl d H' => W cl d τ H') w1 M1 H1 (callA P cl f ds M1) Q) I ?_) fun us s1 ⟨vs, H1, I1, r, w1, M1, ds, m1, rf, q⟩ => ⟨I1.kIn, ?_⟩) (plain_star hp) (nos_any hp2)
  · refine tF_bind st h fun w1 M1 H1 ds vs k1 s1 r1 h1 => ?_
    exact ⟨w1, M1, ds, s1.m, r1, h1⟩
  · obtain ⟨hl, q⟩ := ar_sat q
    obtain ⟨k, fd, ps, F1, hr, hps, hb⟩ := F.ex
    exact L2H.run_fnH (E := WE W) F1 (hr.mono (Nat.le_succ _)) hc (hb hps.symm) (L2N.passAt ok.tk τ) I1 r ⟨w1, M1, ds, m1, rf.mono hf, hl, q⟩
end
end Z


set_option Elab.async false
set_option linter.all false
set_option autoImplicit false
set_option maxRecDepth 100000
set_option maxHeartbeats 4000000
namespace Z
open PySem L2

/-- the exception at a: class k, dict dd -/
def xaOf (z : Ez) (a : Addr) (k : Nat) (dd : Addr) : Addr → Nat → Addr → Str → Prop := fun a' k' dd' f' => a' = a ∧ k' = k ∧ dd' = dd ∧ f' = z.ef k
/-- what an error's class must say -/
structure ErrK (K : PySem.W.Frag) (z : Ez) (k : Nat) : Prop where
  xf : XfC K (z.ea k)
  noN : PySem.W.findIn K (.ref (z.ea k)) (z.ef k) = some none
  ha : PySem.W.findIn K (.ref (z.ea k)) "__class__" = some (some (.builtin "object.__class__"))
  hn : PySem.W.specialIn K (.builtin "object.__class__") "__get__" = some (some (.builtin "getset_descriptor.__get__"))
  ht : PySem.W.takesIn K (.builtin "object.__class__") = some true
  hm : PySem.W.mroIn K (z.ea k) (.type "object") = some true
section
variable {q : Bool} {X : Cx} {c : Cz} {z : Ez} {W : WX} {B : Bs} {P : Prg} {cl : Call}
theorem pe_false {e : PySem.Expr} {te : TE} {f : Str} {pos : Pos} {r : V → Hp → VK → Prop} (hb : baseB e = true) (he : PE X e te) (hr : ∀ x H Q, ¬ r x H Q) : PE X (.Attribute e f pos) fun σ H Q => te σ H fun x H1 => r x H1 Q :=
  ⟨fun pins s σ H Q I h => attr_of (base_ok hb) (thn (he.run pins s σ H _ I h) fun u s1 ⟨x, H1, I1, rx, q⟩ => absurd q (hr _ _ _))⟩
theorem xa_none (ef : ∀ k, z.ef k = c.an (P.exf k)) (hx : ∀ a k dd f, ¬ c.xa a k dd f) : XaOk X c z P where
  ef := ef
  nm := fun a k dd f h => absurd h (hx a k dd f)
  fld := fun e te f pos hb he => pe_false (r := fun x H1 Q => ∃ a k dd v, x = .ref a ∧ c.xa a k dd f ∧ H1 dd = some (.xd [(f, v)]) ∧ Q v H1) hb he fun x H Q ⟨a, k, dd, v, _, h, _⟩ => hx _ _ _ _ h
  isi := fun pins s σ H xs us Q I r ⟨a, k, dd, f, v, b, cv, t, _, h, _⟩ => absurd h (hx _ _ _ _)
  isiT := fun pins s σ H xs us Q I r ⟨a, k, dd, f, v, b, cv, t, us, _, h, _⟩ => absurd h (hx _ _ _ _)
theorem xa_suite {a dd : Addr} {k : Nat} {oe : Obj} {pn : List (Addr × Obj)} (ef : ∀ k, z.ef k = c.an (P.exf k)) (K : ErrK X.K z k) (hz : L2N.Zn (.ref (z.ea k)) (some dd) oe) (hf : ∃ vs, oe.data = .fields vs) : XaOk (X.suite a ((a, oe) :: pn)) (c.at (xaOf z a k dd)) z P where
  ef := ef
  nm := fun a k' dd f h => by obtain ⟨_, rfl, _, rfl⟩ := h; rfl
  fld := fun e te f pos hb he => by
    by_cases hfk : f = z.ef k
    · subst hfk
      refine ⟨fun pins s σ H Q I h => ?_⟩
      refine attr_of (base_ok hb) (thn (he.run pins s σ H _ I h) fun u s1 hh => ?_)
      obtain ⟨x, H1, I1, rx, a', k', dd', v, ex, ⟨e2, e3, e4, _⟩, ea, q⟩ := hh
      subst ex e2 e3 e4
      obtain rfl : u = Value.ref a' := rx
      obtain ⟨ha, _⟩ := I1.pin (a', oe) (List.mem_append_left _ List.mem_cons_self)
      obtain ⟨vs, hd⟩ := hf
      have hx : ObjOk X.prog X.w H1 s1.heap dd' (.xd [(z.ef k', v)]) := I1.hok dd' _ ea
      obtain ⟨mA, hns, hr⟩ := hx
      obtain ⟨od, ho, hl⟩ := lookIn_ns hns
      obtain ⟨u, hu, ru⟩ := RelO.some_of (v := v) (o := mA (z.ef k')) (by
        have e : v = v := rfl
        have := hr (z.ef k')
        simpa using this)
      have J : PySem.W.InstAt s1.heap a' oe (z.ea k') (some od) := ⟨ha, hz.1, by unfold PySem.W.notCls; rw [hd] <;> rfl, by rw [hz.2.1]; exact ho⟩
      exact HandSPX.exc_get I1.kIn J K.xf.ga K.xf.gg K.xf.exC (PySem.W.findObj_own K.xf.hdC K.noN rfl (by rw [hl, hu])) (handed_of ru) ⟨v, H1, I1.tok _, ru, q⟩
    · exact pe_false (r := fun x H1 Q => ∃ a' k' dd' v, x = V.ref a' ∧ xaOf z a k dd a' k' dd' f ∧ H1 dd' = some (.xd [(f, v)]) ∧ Q v H1) hb he fun x H Q ⟨_, _, _, _, _, ⟨_, _, _, h⟩, _⟩ => hfk h
  isi := by
    intro pins s σ H xs us Q I r ⟨a', k', dd', f, v, b, cv, t, ex, ⟨h1, h2, h3, h4⟩, hd, hcv, hk, hq⟩
    subst ex h1 h2 h3 h4
    cases r with
    | cons rx rr =>
      cases rr with
      | cons rt rr =>
        cases rr
        cases rx
        have ec := hcv.eq rt
        subst ec
        obtain ⟨hget, _⟩ := I.pin (a', oe) (List.mem_append.mpr (.inl List.mem_cons_self))
        obtain ⟨vs, hv⟩ := hf
        obtain ⟨mA, hns, _⟩ := (show ObjOk X.prog X.w H s.heap dd' (.xd [(z.ef k', v)]) from I.hok dd' _ hd)
        obtain ⟨od, ho, _⟩ := lookIn_ns hns
        have J : PySem.W.InstAt s.heap a' oe (z.ea k') (some od) := ⟨hget, hz.1, by unfold PySem.W.notCls; rw [hv] <;> rfl, by rw [hz.2.1]; exact ho⟩
        have hcl : (PySem.W.clsIn X.K (z.ea k')).isSome = true := by obtain ⟨cd, hc, _⟩ := PySem.W.any_some K.xf.hdC; rw [hc]; rfl
        exact PySem.W.kia_one (PySem.W.kitx_exc hcl K.xf.ga K.xf.gg K.xf.exC K.ha K.hn K.ht K.hm) I.kIn J hk (fun z => nomatch z) fun tk => ⟨.bl b, H, I.kept (t' := tk) fun _ _ z => z, rfl, hq⟩
  isiT := by
    intro pins s σ H xs us Q I r ⟨a', k', dd', f, v, b, tp, cs, ws, ex, ⟨h1, h2, h3, h4⟩, hd, hT, hcv, hk, hq⟩
    subst ex h1 h2 h3 h4
    cases r with
    | cons rx rr =>
      cases rr with
      | cons rt rr =>
        cases rr
        cases rx
        cases rt
        obtain ⟨hget, _⟩ := I.pin (a', oe) (List.mem_append.mpr (.inl List.mem_cons_self))
        obtain ⟨vs, hv⟩ := hf
        obtain ⟨mA, hns, _⟩ := (show ObjOk X.prog X.w H s.heap dd' (.xd [(z.ef k', v)]) from I.hok dd' _ hd)
        obtain ⟨od, ho, _⟩ := lookIn_ns hns
        have J : PySem.W.InstAt s.heap a' oe (z.ea k') (some od) := ⟨hget, hz.1, by unfold PySem.W.notCls; rw [hv] <;> rfl, by rw [hz.2.1]; exact ho⟩
        have hcl : (PySem.W.clsIn X.K (z.ea k')).isSome = true := by obtain ⟨cd, hc, _⟩ := PySem.W.any_some K.xf.hdC; rw [hc]; rfl
        obtain ⟨_, its, rv, o, g1, g2, n, g3⟩ := (show ObjOk X.prog X.w H s.heap tp (.tup cs) from I.hok tp _ hT)
        have e3 := ClsV.all hcv rv
        subst e3
        obtain ⟨oc, od', dt, sl⟩ := o
        simp only at g2 g3
        subst g2 g3
        exact PySem.W.kia_tup (PySem.W.kitx_exc hcl K.xf.ga K.xf.gg K.xf.exC K.ha K.hn K.ht K.hm) I.kIn J g1 hk (fun z => nomatch z) fun tk => ⟨.bl b, H, I.kept (t' := tk) fun _ _ z => z, rfl, hq⟩
/-- a def's own body: its frame on the stack -/
structure DefX (X : Cx) : Prop where
  hs : X.stack = X.env :: X.outer
  hf : X.env.frame = some X.env.locals
/-- try: .. except C as n: .. -/
theorem s_try {b h : Ss} {kc i : Nat} {x n : Str} {body suite : List PySem.Stmt} {b₀ : PySem.Stmt} {np pos pos' : Pos} (ok : Ok q X c z W) (dx : DefX X) (hx : ∀ a k dd f, ¬ c.xa a k dd f) (hi : X.N[i]? = some n) (hl : locB X.env.scope.names n = true)
    (hm : X.mg x = some (.ref (z.ea kc))) (hg : glB X.env.scope.names x = true) (em : ∀ k t, P.exm k kc = some t → PySem.W.exmOne X.K (.ref (z.ea k)) (.ref (z.ea kc)) = some t ∧ ErrK X.K z k)
    (hb : ∀ (W' : WX) (pn : List (Addr × Obj)) (xe : Value → Shared → Prop), L2N.Takes (X.tr pn xe) W' → PassesOwn (model X.prog X.w) X.A X.env xe → PSs (X.tr pn xe) body (tS c z W' B (evSs P cl b)))
    (hh : ∀ (a dd : Addr) (k : Nat) (oe : Obj) (pn : List (Addr × Obj)), ErrK X.K z k → L2N.Zn (.ref (z.ea k)) (some dd) oe → (∃ vs, oe.data = .fields vs) → PSs (X.suite a ((a, oe) :: pn)) (b₀ :: suite) (tS (c.at (xaOf z a k dd)) z (fun _ _ _ _ => False) B (evSs P cl h))) :
    PS X (.Try body [.ExceptHandler (some (.Name x np)) (some n) (b₀ :: suite) pos'] [] [] pos) (tS c z W B (evS P cl (.tryE b kc i h))) := by
  obtain ⟨g1, g2, g3⟩ := glB_ok hg
  have hln : X.env.scope.names.lookup n = some .local := by simpa [locB] using hl
  refine PS.imp (L2N.ps_try_as (tb := fun W' => tS c z W' B (evSs P cl b)) (ts := fun a cls d Dn τ H => ∃ k dd, cls = .ref (z.ea k) ∧ d = some dd ∧ ErrK X.K z k ∧ tS (c.at (xaOf z a k dd)) z (fun _ _ _ _ => False) B (evSs P cl h) Dn τ H) dx.hs dx.hf ok.nd hi hln ⟨g1, g2, .inl hm⟩ ok.tk hb
    fun a oe cls d pn hz hf => ⟨fun pins s τ H Dn I ⟨k, dd, e1, e2, ek, h⟩ => ?_⟩) fun Dn τ H ⟨w, σ, M, s, hv⟩ => ?_
  · subst e1 e2
    exact (hh a dd k oe pn ek hz hf).run pins s τ H Dn I h
  · rw [evS] at hv
    refine ⟨w, σ, M, s, ?_⟩
    cases e : evSs P cl b σ M with
    | nx σ1 M1 => rw [e] at hv; exact hv
    | rt d M1 => rw [e] at hv; exact hv
    | bk σ1 M1 => rw [e] at hv; exact hv
    | ct σ1 M1 => rw [e] at hv; exact hv
    | bad => rw [e] at hv; exact hv
    | exc k d σ1 M1 =>
      rw [e] at hv
      intro w1 τ1 H1 dd v s1 rv hd f1 f2
      have hv : SatS c z W B Dn ((P.exm k kc).elim .bad fun t => if t then (match evSs P cl h (σ1.set i (.exc k d)) M1 with
        | .nx σ2 M2 => if noX (σ2.set i .non) then .nx (σ2.set i .non) M2 else .bad
        | .rt d M2 => .rt d M2
        | _ => .bad) else .exc k d σ1 M1) := hv
      obtain ⟨t, ht, hv⟩ := elim_S hv
      obtain ⟨e1, e2⟩ := em k t ht
      refine ⟨t, e1, fun et a ha => ?_, fun et => ?_⟩
      · subst et
        rw [if_pos rfl] at hv
        have nx : ∀ (i k : Nat) (d : D), σ1[i]? ≠ some (SV.exc k d) := fun i k d e => by
          obtain ⟨_, _, _, _, _, g, _⟩ := s1.exc i k d e
          exact hx _ _ _ _ g
        refine ⟨k, dd, rfl, rfl, e2, w1, σ1.set i (.exc k d), M1, (s1.xa nx).setE ⟨rfl, rfl, rfl, rfl⟩ hd (R_xa _ _ rv) f1 f2, ?_⟩
        cases er : evSs P cl h (σ1.set i (.exc k d)) M1 with
        | nx σ2 M2 =>
          rw [er] at hv
          obtain ⟨h1, hv⟩ := if_S hv
          exact fun w3 τ3 H3 s3 => hv w3 _ H3 ((s3.gone i).ax (noX_ok h1))
        | rt d2 M2 => rw [er] at hv; exact fun w3 H3 v3 k3 m3 r3 => hv w3 H3 v3 k3 (MR_ax m3) (R_ax _ _ r3)
        | bk σ2 M2 => rw [er] at hv; exact hv.elim
        | ct σ2 M2 => rw [er] at hv; exact hv.elim
        | exc k2 d2 σ2 M2 => rw [er] at hv; exact hv.elim
        | bad => rw [er] at hv; exact hv.elim
      · subst et
        rw [if_neg Bool.false_ne_true] at hv
        exact hv w1 τ1 H1 dd v s1 rv hd f1 f2
end
end Z


set_option Elab.async false
set_option linter.all false
set_option autoImplicit false
set_option maxRecDepth 100000
set_option maxHeartbeats 4000000
namespace Z
open PySem L2

/-! ### walks, over an expression's state -/
structure ItJ (c : Cz) (J : L2.It) (ds : List D) (S : Wd → Prop) : Prop where
  mono : ∀ w w', Wle w w' → S w → S w'
  stop : ∀ {w : Wd} {M : Sto} {H : Hp}, MR c w M H → S w → J.stop ds.length H
  go : ∀ {i : Nat} {w : Wd} {M : Sto} {H : Hp}, i < ds.length → MR c w M H → S w → J.go i H
  yld : ∀ {i : Nat} {d : D} {w : Wd} {M : Sto} {H H' : Hp} {x : V}, ds[i]? = some d → MR c w M H → S w → J.yld i H x H' → ∃ w', Keep w M H w' M H' ∧ MR c w' M H' ∧ S w' ∧ R c w' d x
def tJ (c : Cz) (z : Ez) (W : WX) (ev : List SV → Sto → Ress) : TI := fun τ H Q => ∃ w σ M, SR c w σ M τ H ∧ match ev σ M with
  | .ok ds M' => ∀ w' H' J S, Keep w M H w' M' H' → SR c w' σ M' τ H' → ItJ c J ds S → S w' → Q J H'
  | .exc k d M' => ExcAt c z (fun cl d H' => W cl d τ H') w M H k d M'
  | .bad => False
section
variable {q : Bool} {X : Cx} {c : Cz} {z : Ez} {W : WX} {B : Bs} {P : Prg} {cl : Call} {tg : PySem.Expr}
theorem itj_list {a : Addr} {ds : List D} (hK : c.K = X.K) : ItJ c (Itl X.K a) ds fun w => ∃ xs, SqL c.K w.F a xs ∧ Rs c w ds xs where
  mono := fun w w' h ⟨xs, q, r⟩ => ⟨xs, SqL_le h q, Rs.le h _ _ r⟩
  stop := fun s ⟨xs, q, r⟩ => ⟨xs, hK ▸ SqL.sub s.sub q, Nat.le_of_eq r.length⟩
  go := fun {i _ _ _} hi s ⟨xs, q, r⟩ => ⟨xs, xs[i]'(by rw [r.length]; exact hi), hK ▸ SqL.sub s.sub q, List.getElem?_eq_getElem _⟩
  yld := fun {i d w M H H' x} hd s ⟨xs, q, r⟩ ⟨e, hx⟩ => by
    subst e
    exact ⟨w, .refl, s, ⟨xs, q, r⟩, r.of_get hd (hx xs (hK ▸ SqL.sub s.sub q))⟩
theorem itj_tup {a : Addr} {ds : List D} (hK : c.K = X.K) : ItJ c (Itt X.K a) ds fun w => ∃ xs, SqT c.K w.F a xs ∧ Rs c w ds xs where
  mono := fun w w' h ⟨xs, q, r⟩ => ⟨xs, SqT_le h q, Rs.le h _ _ r⟩
  stop := fun s ⟨xs, q, r⟩ => ⟨xs, hK ▸ SqT.sub s.sub q, Nat.le_of_eq r.length⟩
  go := fun {i _ _ _} hi s ⟨xs, q, r⟩ => ⟨xs, xs[i]'(by rw [r.length]; exact hi), hK ▸ SqT.sub s.sub q, List.getElem?_eq_getElem _⟩
  yld := fun {i d w M H H' x} hd s ⟨xs, q, r⟩ ⟨e, hx⟩ => by
    subst e
    exact ⟨w, .refl, s, ⟨xs, q, r⟩, r.of_get hd (hx xs (hK ▸ SqT.sub s.sub q))⟩
theorem itj_str {x : List Nat} (ho : okS x) : ItJ c (Its (sS x)) (x.map fun k => .str [k]) fun _ => True where
  mono := fun _ _ _ h => h
  stop := fun s _ => by show (x.toArray).size ≤ _; simp
  go := fun hi s _ => by show _ < (x.toArray).size; simpa using hi
  yld := fun {i d w M H H' v} hd s _ ⟨e, k, h1, h2⟩ => by
    subst e
    refine ⟨w, .refl, s, True.intro, ?_⟩
    rw [List.getElem?_map] at hd
    have h1 : (x.toArray)[i]? = some k := h1
    have h1 : x[i]? = some k := by simpa using h1
    rw [h1] at hd
    cases hd
    refine ⟨by rw [h2]; rfl, fun n hn => ?_⟩
    rw [List.mem_singleton.mp hn]
    exact ho k (List.mem_of_getElem? h1)
theorem itj_rng {lo : Int} {n : Nat} : ItJ c (Itr lo n) (rngI lo n 1) fun _ => True where
  mono := fun _ _ _ h => h
  stop := fun s _ => by show n ≤ _; simp [rngI]
  go := fun hi s _ => by show _ < n; simpa [rngI] using hi
  yld := fun {i d w M H H' v} hd s _ ⟨e, h1⟩ => by
    subst e
    refine ⟨w, .refl, s, True.intro, ?_⟩
    unfold rngI at hd
    rw [List.getElem?_map] at hd
    cases hr : (List.range n)[i]? with
    | none => rw [hr] at hd; cases hd
    | some j =>
      rw [hr] at hd
      have : j = i := by
        rw [List.getElem?_range] at hr
        · cases hr; rfl
        · have := (List.getElem?_eq_some_iff.mp hr).1; simpa using this
      subst this
      cases hd
      rw [h1]
      simp [R]
/-- a value, walked -/
theorem j_seq {e : E} {e' : PySem.Expr} (ok : Ok q X c z W) (he : PE X e' (tE c z W (evE P cl e))) : PI X tg e' (tJ c z W (itE P cl (.seq e))) := by
  refine ⟨fun pins s τ H Q I ⟨w, σ, M, st, h⟩ => ?_⟩
  rw [itE] at h
  refine thn (he.run pins s τ H (fun x H1 => ∃ w1 M1 d, SR c w1 σ M1 τ H1 ∧ R c w1 d x ∧ ∃ ds, seqI d = some ds ∧ ∀ J S, ItJ c J ds S → S w1 → Q J H1) I ?_) fun v s1 ⟨x, H1, I1, r1, w1, M1, d, st1, rd, ds0, hs0, q⟩ => ?_
  · refine ⟨w, σ, M, st, ?_⟩
    cases e1 : evE P cl e σ M with
    | bad => rw [e1] at h; exact h
    | exc k d M1 => rw [e1] at h; exact h
    | ok d M1 =>
      rw [e1] at h
      intro w1 H1 v k1 m1 r1
      have h : (match (seqI d).elim Ress.bad fun ds => .ok ds M1 with
        | .ok ds M' => ∀ w' H' J S, Keep w M H w' M' H' → SR c w' σ M' τ H' → ItJ c J ds S → S w' → Q J H'
        | .exc k d M' => ExcAt c z (fun cl d H' => W cl d τ H') w M H k d M'
        | .bad => False) := h
      cases hs : seqI d with
      | none => rw [hs] at h; exact h.elim
      | some ds =>
        rw [hs] at h
        exact ⟨w1, M1, d, st.keep k1 m1, r1, ds, hs, fun J S z1 z2 => h w1 H1 J S k1 (st.keep k1 m1) z1 z2⟩
  · cases d with
    | lst ds =>
      cases hs0
      obtain ⟨a, xs, rfl, hq, rs⟩ := rd
      cases r1
      have hq' : SqL c.K w1.F a xs := .inl (.inl hq)
      obtain ⟨its, rv, p, hz⟩ := I1.list (ok.hK ▸ SqL.sub st1.m.sub hq')
      refine wpAny_pyIter_list p.isList ?_
      refine ⟨s1.heap.objs.size, [s1.heap.objs.size], _, _, H1, rfl, I1.kept (t' := s1.toks) fun b o e => Heap.get?_push_of_some _ e, turn_list a _, ⟨_, Heap.get?_push_size _ rfl, rfl, rfl⟩, fun b hb => ?_, q _ _ (itj_list ok.hK) ⟨xs, hq', rs⟩⟩
      have e : b = s1.heap.objs.size := by simpa using hb
      subst e
      exact I1.fpOk (Nat.le_refl _) (I1.hok.fresh (Nat.le_refl _))
    | frl ds =>
      cases hs0
      obtain ⟨a, xs, rfl, hq', rs⟩ := rd
      cases r1
      obtain ⟨its, rv, p, hz⟩ := I1.list (ok.hK ▸ SqL.sub st1.m.sub hq')
      refine wpAny_pyIter_list p.isList ?_
      refine ⟨s1.heap.objs.size, [s1.heap.objs.size], _, _, H1, rfl, I1.kept (t' := s1.toks) fun b o e => Heap.get?_push_of_some _ e, turn_list a _, ⟨_, Heap.get?_push_size _ rfl, rfl, rfl⟩, fun b hb => ?_, q _ _ (itj_list ok.hK) ⟨xs, hq', rs⟩⟩
      have e : b = s1.heap.objs.size := by simpa using hb
      subst e
      exact I1.fpOk (Nat.le_refl _) (I1.hok.fresh (Nat.le_refl _))
    | tup ds =>
      cases hs0
      obtain ⟨a, xs, rfl, hq', rs⟩ := rd
      cases r1
      obtain ⟨its, rv, p, hz⟩ := I1.tuple (ok.hK ▸ SqT.sub st1.m.sub hq')
      refine wpAny_pyIter_tuple (show s1.heap.IsTuple a its.toArray from p) ?_
      refine ⟨s1.heap.objs.size, [s1.heap.objs.size], _, _, H1, rfl, I1.kept (t' := s1.toks) fun b o e => Heap.get?_push_of_some _ e, turn_tuple a _, ⟨_, Heap.get?_push_size _ rfl, rfl, rfl⟩, fun b hb => ?_, q _ _ (itj_tup ok.hK) ⟨xs, hq', rs⟩⟩
      have e : b = s1.heap.objs.size := by simpa using hb
      subst e
      exact I1.fpOk (Nat.le_refl _) (I1.hok.fresh (Nat.le_refl _))
    | str x =>
      cases hs0
      obtain ⟨rfl, ho⟩ := rd
      obtain ⟨t, rfl⟩ := r1
      have qq := q _ _ (itj_str (c := c) ho) True.intro
      cases ha : (sS x).cps.all (· < 128)
      · exact wpAny_pyIter_wide ha (pi_one (tk := s1.toks) I1 _ (turn_str _ (sS x) t "str_iterator" (.inr rfl)) ⟨_, Heap.get?_push_size _ rfl, rfl, rfl⟩ qq)
      · exact wpAny_pyIter_ascii ha (pi_one (tk := s1.toks) I1 _ (turn_str _ (sS x) t "str_ascii_iterator" (.inl rfl)) ⟨_, Heap.get?_push_size _ rfl, rfl, rfl⟩ qq)
    | _ => cases hs0
/-- range(j) -/
theorem j_rng1 {as : Es} {e' : PySem.Expr} {p pos : Pos} (ok : Ok q X c z W) (hB : noB as = true) (hS : noS as = true) (hc : cnt as = 1) (hg : glB X.env.scope.names "range" = true) (hp : plainB e' = true) (ha : PA X [e'] (tF c z W (flg as) (evEs P cl as))) :
    PI X tg (.Call (.Name "range" p) [e'] [] pos) (tJ c z W (itE P cl (.rng as))) := by
  obtain ⟨g1, g2, g3⟩ := glB_ok hg
  refine ⟨fun pins s τ H Q I ⟨w, σ, M, st, h⟩ => (pi_range1 g1 (ok.bn _ (by decide)) ha (plain_one hp)).run pins s τ H Q I ?_⟩
  rw [itE] at h
  refine ⟨w, σ, M, st, ?_⟩
  cases e1 : evEs P cl as σ M with
  | bad => rw [e1] at h; exact h
  | exc k d M1 => rw [e1] at h; exact h
  | ok ds M1 =>
    rw [e1] at h
    intro w1 H1 vs k1 m1 r1
    have rs := Rf.rs (flg_noB hB) r1
    have h : (match (rngOf ds).elim Ress.bad fun ds => .ok ds M1 with
        | .ok ds M' => ∀ w' H' J S, Keep w M H w' M' H' → SR c w' σ M' τ H' → ItJ c J ds S → S w' → Q J H'
        | .exc k d M' => ExcAt c z (fun cl d H' => W cl d τ H') w M H k d M'
        | .bad => False) := h
    cases hs : rngOf ds with
    | none => rw [hs] at h; exact h.elim
    | some rs' =>
      rw [hs] at h
      have hl := cnt_len hS e1
      rw [hc] at hl
      match ds, hl, hs, rs with
      | [d], _, hs, ⟨v, r, e, r2, r3⟩ =>
        subst e
        cases r3
        cases d with
        | int j =>
          cases r2
          have hs : (if -B62 ≤ j ∧ j < B62 then some (rngI 0 j.toNat 1) else none) = some rs' := hs
          by_cases hj : -B62 ≤ j ∧ j < B62
          · rw [if_pos hj] at hs
            cases hs
            exact ⟨j, rfl, by rw [pow62]; exact hj.1, by rw [pow62]; exact hj.2, h w1 H1 _ _ k1 (st.keep k1 m1) itj_rng True.intro⟩
          · rw [if_neg hj] at hs; cases hs
        | _ => cases hs
/-- range(i, j) -/
theorem j_rng2 {as : Es} {e' f' : PySem.Expr} {p pos : Pos} (ok : Ok q X c z W) (hB : noB as = true) (hS : noS as = true) (hc : cnt as = 2) (hg : glB X.env.scope.names "range" = true) (hp : plainB e' = true) (hp2 : plainB f' = true) (ha : PA X [e', f'] (tF c z W (flg as) (evEs P cl as))) :
    PI X tg (.Call (.Name "range" p) [e', f'] [] pos) (tJ c z W (itE P cl (.rng as))) := by
  obtain ⟨g1, g2, g3⟩ := glB_ok hg
  refine ⟨fun pins s τ H Q I ⟨w, σ, M, st, h⟩ => (pi_range2 g1 (ok.bn _ (by decide)) ha (by rw [plain_star hp, plain_one hp2]) (plain_one hp2)).run pins s τ H Q I ?_⟩
  rw [itE] at h
  refine ⟨w, σ, M, st, ?_⟩
  cases e1 : evEs P cl as σ M with
  | bad => rw [e1] at h; exact h
  | exc k d M1 => rw [e1] at h; exact h
  | ok ds M1 =>
    rw [e1] at h
    intro w1 H1 vs k1 m1 r1
    have rs := Rf.rs (flg_noB hB) r1
    have h : (match (rngOf ds).elim Ress.bad fun ds => .ok ds M1 with
        | .ok ds M' => ∀ w' H' J S, Keep w M H w' M' H' → SR c w' σ M' τ H' → ItJ c J ds S → S w' → Q J H'
        | .exc k d M' => ExcAt c z (fun cl d H' => W cl d τ H') w M H k d M'
        | .bad => False) := h
    cases hs : rngOf ds with
    | none => rw [hs] at h; exact h.elim
    | some rs' =>
      rw [hs] at h
      have hl := cnt_len hS e1
      rw [hc] at hl
      match ds, hl, hs, rs with
      | [d, d2], _, hs, ⟨v, _, e, r2, v2, _, e2, r3, r4⟩ =>
        cases r4; subst e2; subst e
        cases d with
        | int i =>
          cases d2 with
          | int j =>
            cases r2; cases r3
            have hs : (if (-B62 ≤ i ∧ i < B62) ∧ (-B62 ≤ j ∧ j < B62) then some (rngI i (j - i).toNat 1) else none) = some rs' := hs
            by_cases hj : (-B62 ≤ i ∧ i < B62) ∧ (-B62 ≤ j ∧ j < B62)
            · rw [if_pos hj] at hs
              cases hs
              exact ⟨i, j, rfl, by rw [pow62]; exact ⟨hj.1.1, hj.1.2, hj.2.1, hj.2.2⟩, h w1 H1 _ _ k1 (st.keep k1 m1) itj_rng True.intro⟩
            · rw [if_neg hj] at hs; cases hs
          | _ => cases hs
        | _ => cases hs
end

/-! ### comprehensions -/
theorem wipe_at (τ : St) : ∀ (vs : List Nat) (j : Nat), (wipe τ vs)[j]? = if j ∈ vs ∧ j < τ.length then some none else τ[j]?
  | [], j => by simp [wipe]
  | v :: vs, j => by
    unfold wipe
    rw [List.getElem?_set]
    have ih := wipe_at τ vs j
    by_cases e : v = j
    · subst e
      rw [if_pos rfl, wipe_length]
      by_cases h : v < τ.length
      · rw [if_pos h, if_pos ⟨List.mem_cons_self .., h⟩]
      · rw [if_neg h, if_neg (fun q => h q.2), List.getElem?_eq_none (by omega)]
    · rw [if_neg e, ih]
      have : (j ∈ v :: vs) ↔ j ∈ vs := by simp [Ne.symm e]
      simp only [this]
theorem wipe_ext {τ τ' : St} {vs : List Nat} (hl : τ'.length = τ.length) (h : ∀ j, j ∉ vs → τ'[j]? = τ[j]?) : wipe τ' vs = wipe τ vs := by
  apply List.ext_getElem?
  intro j
  rw [wipe_at, wipe_at, hl]
  by_cases q : j ∈ vs
  · by_cases z : j < τ.length
    · rw [if_pos ⟨q, z⟩, if_pos ⟨q, z⟩]
    · rw [if_neg (fun y => z y.2), if_neg (fun y => z y.2), List.getElem?_eq_none (by omega), List.getElem?_eq_none (by omega)]
  · rw [if_neg (fun y => q y.1), if_neg (fun y => q y.1), h j q]
section
variable {q : Bool} {X : Cx} {c : Cz} {z : Ez} {W : WX} {B : Bs} {P : Prg} {cl : Call} {w : Wd} {M : Sto} {H : Hp}
theorem SR.gone {σ : List SV} {τ : St} (s : SR c w σ M τ H) (i : Nat) : SR c w (σ.set i .non) M (τ.set i none) H := by
  refine ⟨s.m, by simp [s.s.len], fun j d e => ?_, fun j d e => ?_, fun j mo e => ?_, fun j k mo mo' e1 e2 e3 => ?_, fun j k d e => ?_⟩
  · rcases set_cases e with ⟨rfl, q⟩ | ⟨n, q⟩
    · cases q
    · rw [List.getElem?_set_ne (Ne.symm n)]; exact s.s.val j d q
  · rcases set_cases e with ⟨rfl, q⟩ | ⟨n, q⟩
    · cases q
    · rw [List.getElem?_set_ne (Ne.symm n)]; exact s.s.brw j d q
  · rcases set_cases e with ⟨rfl, q⟩ | ⟨n, q⟩
    · cases q
    · rw [List.getElem?_set_ne (Ne.symm n)]; exact s.s.own j mo q
  · rcases set_cases e1 with ⟨rfl, q⟩ | ⟨n, q⟩
    · cases q
    · rcases set_cases e2 with ⟨rfl, q2⟩ | ⟨n2, q2⟩
      · cases q2
      · rw [List.getElem?_set_ne (Ne.symm n), List.getElem?_set_ne (Ne.symm n2)] at e3
        exact s.s.dis j k mo mo' q q2 e3
  · rcases set_cases e with ⟨rfl, q⟩ | ⟨n, q⟩
    · cases q
    · rw [List.getElem?_set_ne (Ne.symm n)]; exact s.s.exc j k d q
theorem SR.setV {σ : List SV} {τ : St} (s : SR c w σ M τ H) {i : Nat} {d : D} {v : V} (r : R c w d v) : SR c w (σ.set i (.val d)) M (τ.set i (some v)) H := by
  refine ⟨s.m, by simp [s.s.len], fun j d' e => ?_, fun j d' e => ?_, fun j mo e => ?_, fun j k mo mo' e1 e2 e3 => ?_, fun j k d' e => ?_⟩
  · have hl := set_lt e
    rcases set_cases e with ⟨rfl, q⟩ | ⟨n, q⟩
    · cases q; exact ⟨v, by rw [List.getElem?_set_self (by rw [← s.s.len]; exact hl)], r⟩
    · rw [List.getElem?_set_ne (Ne.symm n)]; exact s.s.val j d' q
  · rcases set_cases e with ⟨rfl, q⟩ | ⟨n, q⟩
    · cases q
    · rw [List.getElem?_set_ne (Ne.symm n)]; exact s.s.brw j d' q
  · rcases set_cases e with ⟨rfl, q⟩ | ⟨n, q⟩
    · cases q
    · rw [List.getElem?_set_ne (Ne.symm n)]; exact s.s.own j mo q
  · rcases set_cases e1 with ⟨rfl, q⟩ | ⟨n, q⟩
    · cases q
    · rcases set_cases e2 with ⟨rfl, q2⟩ | ⟨n2, q2⟩
      · cases q2
      · rw [List.getElem?_set_ne (Ne.symm n), List.getElem?_set_ne (Ne.symm n2)] at e3
        exact s.s.dis j k mo mo' q q2 e3
  · rcases set_cases e with ⟨rfl, q⟩ | ⟨n, q⟩
    · cases q
    · rw [List.getElem?_set_ne (Ne.symm n)]; exact s.s.exc j k d' q
theorem SR.wipe {σ : List SV} {τ : St} (s : SR c w σ M τ H) : ∀ is : List Nat, SR c w (wipeZ σ is) M (L2.wipe τ is) H
  | [] => s
  | i :: is => by
    unfold wipeZ L2.wipe
    exact (SR.wipe s is).gone i
theorem gts_run2 {K : St → Hp → Prop} : ∀ {is : List Nat} {ds : List D} {vs : List V} {σ σ' : List SV} {τ : St}, SR c w σ M τ H → Rs c w ds vs → setT σ is ds = some σ' →
    (∀ τ', SR c w σ' M τ' H → τ'.length = τ.length → (∀ j, j ∉ is → τ'[j]? = τ[j]?) → K τ' H) → gts is vs τ H K
  | [], ds, vs, σ, σ', τ, s, r, h, k => by
    cases ds with
    | nil => cases r; cases h; exact ⟨rfl, k τ s rfl fun _ _ => rfl⟩
    | cons d ds => cases h
  | i :: is, ds, vs, σ, σ', τ, s, r, h, k => by
    cases ds with
    | nil => cases h
    | cons d ds =>
      obtain ⟨v, vr, rfl, r1, r2⟩ := r
      refine ⟨v, vr, rfl, gts_run2 (is := is) (s.setV r1) r2 h fun τ' s' hl he => k τ' s' (by rw [hl]; simp) fun j hj => ?_⟩
      simp only [List.mem_cons, not_or] at hj
      rw [he j hj.2, List.getElem?_set_ne (Ne.symm hj.1)]
theorem gtI_run2 {K0 : PySem.W.Frag} (hK : c.K = K0) {is : List Nat} {d : D} {x : V} {σ σ' : List SV} {τ : St} {K : St → Hp → Prop} (s : SR c w σ M τ H) (r : R c w d x) (h : setI σ is d = some σ')
    (k : ∀ τ', SR c w σ' M τ' H → τ'.length = τ.length → (∀ j, j ∉ is → τ'[j]? = τ[j]?) → K τ' H) : gtI K0 is x τ H K := by
  have tp : ∀ {ds : List D}, d = .tup ds → setT σ is ds = some σ' → gTup K0 is.length (gts is) x τ H K := fun {ds} ed hs => by
    subst ed
    obtain ⟨a, xs, rfl, q, rs⟩ := RV.tup s.m r
    exact ⟨a, xs, rfl, hK ▸ q, by rw [rs.length, setT_len hs], gts_run2 s rs hs k⟩
  match is, h with
  | [i], h => cases h; exact k _ (s.setV r) (by simp) fun j hj => by rw [List.getElem?_set_ne (fun e => hj (by rw [e]; exact List.mem_cons_self ..))]
  | [], h =>
    cases d with
    | tup ds => exact tp rfl h
    | _ => cases h
  | a :: b :: l, h =>
    cases d with
    | tup ds => exact tp rfl h
    | _ => cases h
/-- the new list becomes plain data -/
theorem frz_new {w0 : Wd} {M0 : Sto} {H0 : Hp} {p : Addr} {xs : List V} {ds : List D} (k : Keep w0 M0 H0 w M H) (m : MR c w M H) (hp : H0 p = none) (h2 : H p = some (.lst xs)) (r : Rs c w ds xs) (h4 : w.F p = none) (h5 : ¬ InM w M p) :
    Keep w0 M0 H0 (w.add p (.lst xs)) M H ∧ MR c (w.add p (.lst xs)) M H ∧ R c (w.add p (.lst xs)) (.lst ds) (.ref p) := by
  have le : Wle w (w.add p (.lst xs)) := .add h4
  refine ⟨⟨k.le.trans le, k.keep, fun a u e q => ?_, k.rnew, k.th⟩, ⟨m.nx, fun a u e => ?_, fun n mo' h => ?_, m.inj⟩, ⟨p, xs, rfl, by show upd w.F p _ p = _; rw [upd_same], Rs.le le _ _ r⟩⟩
  · have e' : upd w.F p (.lst xs) a = some u := e
    by_cases z : a = p
    · subst z; exact .inl hp
    · rw [upd_ne z] at e'; exact k.fnew a u e' q
  · have e' : upd w.F p (.lst xs) a = some u := e
    by_cases z : a = p
    · subst z; rw [upd_same] at e'; cases e'; exact h2
    · rw [upd_ne z] at e'; exact m.sub a u e'
  · obtain ⟨g1, g2, u, g3, g4⟩ := m.st n mo' h
    exact ⟨g1, by show upd w.F p _ (w.rh n) = none; rw [upd_ne (fun z => h5 ⟨n, mo', h, z⟩)]; exact g2, u, g3, g4.le le⟩
theorem keep_updO {w0 : Wd} {M0 : Sto} {H0 : Hp} {p : Addr} {o : HO} (k : Keep w0 M0 H0 w M H) (hp : H0 p = none) : Keep w0 M0 H0 w M (upd H p o) :=
  ⟨k.le, fun a u e n => by rw [upd_ne (ne_of_none e hp)]; exact k.keep a u e n, k.fnew, k.rnew, fun a h => k.th a (upd_none h)⟩
theorem mor_lst {vs : List V} {acc : List D} (r : MOr c w (.lst vs) (.lst acc)) : Rs c w acc vs := by
  obtain ⟨v', e', r'⟩ := r
  cases e'
  exact r'
def noW : WX := fun _ _ _ _ => False
theorem comp_imp {K0 : PySem.W.Frag} (hK : c.K = K0) {is : List Nat} {it : It} {cond body : E} {τ : St} {H : Hp} {Q : VK} (h0 : tE c z W (evE P cl (.comp is it cond body)) τ H Q) :
    tLc (tJ c z W (itE P cl it)) (gtI K0 is) (tTr c z noW (evE P cl cond)) (tE c z noW (evE P cl body)) is τ H Q := by
  obtain ⟨w, σ, M, sr, h⟩ := h0
  rw [evE] at h
  refine ⟨w, σ, M, sr, ?_⟩
  cases e : itE P cl it σ M with
  | bad => rw [e] at h; exact h
  | exc k d M1 => rw [e] at h; exact h
  | ok ds M1 =>
    rw [e] at h
    intro w1 H1 J S k1 s1 z1 hS D hD
    have h1 := Sat.step (r := compL is (evE P cl cond) (evE P cl body) (wipeZ σ is) ds M1 []) h k1
    obtain ⟨f1, f2⟩ := s1.m.fresh hD
    refine ⟨fun i m H' => ∃ w' M' acc vs, Keep w1 M1 H1 w' M' H' ∧ MR c w' M' H' ∧ S w' ∧ H' D = some (.lst vs) ∧ Rs c w' acc vs ∧ w'.F D = none ∧ ¬ InM w' M' D ∧ m = ds.length - i ∧ i ≤ ds.length ∧ SR c w' (wipeZ σ is) M' (L2.wipe τ is) H' ∧
        Sat c z (fun cl d H' => W cl d τ H') w1 M1 H1 (compL is (evE P cl cond) (evE P cl body) (wipeZ σ is) (ds.drop i) M' acc) Q,
      ⟨ds.length, w1, M1, [], [], keep_upd s1.m hD, s1.m.upd hD, hS, upd_same, rfl, f1, f2, rfl, Nat.zero_le _, (s1.keep (keep_upd s1.m hD) (s1.m.upd hD)).wipe is, h1⟩, ?_⟩
    rintro i m H' ⟨w', M', acc, vs, K, m', hS', hDv, rv, g1, g2, rfl, hi', s', h'⟩
    by_cases hlt : i < ds.length
    · refine .inr ⟨z1.go hlt m' hS', fun H2 => ∃ m', m' < ds.length - i ∧ ∃ w' M' acc vs, Keep w1 M1 H1 w' M' H2 ∧ MR c w' M' H2 ∧ S w' ∧ H2 D = some (.lst vs) ∧ Rs c w' acc vs ∧ w'.F D = none ∧ ¬ InM w' M' D ∧ m' = ds.length - (i + 1) ∧ i + 1 ≤ ds.length ∧ SR c w' (wipeZ σ is) M' (L2.wipe τ is) H2 ∧
        Sat c z (fun cl d H' => W cl d τ H') w1 M1 H1 (compL is (evE P cl cond) (evE P cl body) (wipeZ σ is) (ds.drop (i + 1)) M' acc) Q, fun H2 q => q, fun x H2 hy => ?_⟩
      have hd : ds[i]? = some ds[i] := List.getElem?_eq_getElem hlt
      obtain ⟨w2, k2, m2, hS2, rx⟩ := z1.yld hd m' hS' hy
      have s2 := s'.keep k2 m2
      obtain ⟨d2, r2, g3, g4⟩ := own_keep (mo := .lst acc) hDv ⟨vs, rfl, rv⟩ g1 g2 k2
      rw [List.drop_eq_getElem_cons hlt] at h'
      rw [compL] at h'
      obtain ⟨σ1, hσ, h'⟩ := elimE h'
      refine gtI_run2 hK s2 rx hσ fun τ3 s3 hl3 he3 => ⟨?_, ?_⟩
      · rw [wipe_ext hl3 he3]
        exact wipe_ext (wipe_length τ is) (fun j hj => by rw [wipe_at, if_neg (fun q => hj q.1)])
      · refine ⟨w2, σ1, M', s3, ?_⟩
        unfold evT
        cases ec : evE P cl cond σ1 M' with
        | bad => rw [ec] at h'; exact h'.elim
        | exc k d M2 => rw [ec] at h'; exact h'.elim
        | ok x2 M2 =>
          rw [ec] at h'
          have h' : Sat c z (fun cl d H' => W cl d τ H') w1 M1 H1 ((tru M2 x2).elim .bad fun b => if b then (match evE P cl body σ1 M2 with
            | .ok y M2 => if acc.length < LIM then compL is (evE P cl cond) (evE P cl body) (wipeZ σ is) (ds.drop (i + 1)) M2 (acc ++ [y]) else .bad
            | _ => .bad) else compL is (evE P cl cond) (evE P cl body) (wipeZ σ is) (ds.drop (i + 1)) M2 acc) Q := h'
          obtain ⟨b, hb, h'⟩ := elimE h'
          show Sat c z _ w2 M' H2 ((tru M2 x2).elim .bad fun b => .ok (.bl b) M2) _
          rw [hb]
          intro w3 H3 v k3 m3 r3
          have r3 : v = .bl b := r3
          subst r3
          refine ⟨b, rfl, ?_⟩
          obtain ⟨d3, q3, g5, g6⟩ := own_keep (mo := .lst acc) d2 r2 g3 g4 k3
          have K3 := (K.trans k2).trans k3
          cases b with
          | false =>
            rw [if_neg (by decide)] at h'
            simp only [Bool.false_eq_true, if_false]
            have rv3 := mor_lst q3
            exact ⟨_, by omega, w3, M2, acc, vs, K3, m3, z1.mono _ _ k3.le hS2, d3, rv3, g5, g6, rfl, hlt, (s1.keep K3 m3).wipe is, h'⟩
          | true =>
            rw [if_pos rfl] at h'
            simp only [if_true]
            refine ⟨w3, σ1, M2, s3.keep k3 m3, ?_⟩
            cases eb : evE P cl body σ1 M2 with
            | bad => rw [eb] at h'; exact h'.elim
            | exc k d M3 => rw [eb] at h'; exact h'.elim
            | ok y M3 =>
              rw [eb] at h'
              have h' : Sat c z (fun cl d H' => W cl d τ H') w1 M1 H1 (if acc.length < LIM then compL is (evE P cl cond) (evE P cl body) (wipeZ σ is) (ds.drop (i + 1)) M3 (acc ++ [y]) else .bad) Q := h'
              by_cases hl : acc.length < LIM
              · rw [if_pos hl] at h'
                intro w4 H4 v4 k4 m4 r4
                obtain ⟨d4, r4', g7, g8⟩ := own_keep (mo := .lst acc) d3 q3 g5 g6 k4
                have rv4 := mor_lst r4'
                have K4 := keep_updO (o := .lst (vs ++ [v4])) (K3.trans k4) hD
                have m5 : MR c w4 M3 (upd H4 D (.lst (vs ++ [v4]))) := m4.updF g7 g8
                refine ⟨vs, d4, by rw [rv4.length, LIM_eq]; exact hl, ?_⟩
                exact ⟨_, by omega, w4, M3, acc ++ [y], vs ++ [v4], K4, m5, z1.mono _ _ (k3.trans k4).le hS2, upd_same, rv4.app ⟨v4, [], rfl, r4, rfl⟩, g7, g8, rfl, hlt, (s1.keep K4 m5).wipe is, h'⟩
              · rw [if_neg hl] at h'; exact h'.elim
    · have ei : i = ds.length := by omega
      subst ei
      rw [List.drop_length] at h'
      obtain ⟨x1, x2, x3⟩ := frz_new K m' hD hDv rv g1 g2
      exact .inl ⟨z1.stop m' hS', h' _ _ _ x1 x2 x3⟩
theorem e_comp {is : List Nat} {it : It} {cond body : E} {elt tg iter : PySem.Expr} {ifs : List PySem.Expr} {scope : Scope} {own : List (Str × Nat)} {pos : Pos} (ok : Ok q X c z W) (hq : q = true) (hb : BlkOk X.N X.env.scope scope own) (ho : own.map (·.2) = is)
    (hi : PI X tg iter (tJ c z W (itE P cl it)))
    (hg : ∀ (s : Shared) (H : Hp) (C : Addr) (cl : List (Str × Addr)) (fp : List Addr), PG (X.blk s H scope (compEnvC scope cl C X.env) fp) tg (gtI X.K is))
    (ht : ∀ (s : Shared) (H : Hp) (C : Addr) (l : List (Str × Addr)) (fp : List Addr), PTs (X.blk s H scope (compEnvC scope l C X.env) fp) ifs (tTr c z noW (evE P cl cond)))
    (he : ∀ (s : Shared) (H : Hp) (C : Addr) (l : List (Str × Addr)) (fp : List Addr), PE (X.blk s H scope (compEnvC scope l C X.env) fp) elt (tE c z noW (evE P cl body)))
    (hs : ∀ x, foldedSetIterable iter X.env x = Pure.pure x) : PE X (.ListComp elt [⟨tg, iter, ifs, 0⟩] scope pos) (tE c z W (evE P cl (.comp is it cond body))) := by
  subst ho
  exact PE.imp (pe_lc (ok.calm hq) ok.nd hi hb hg ht he hs) fun τ H Q h => comp_imp ok.hK h
end
end Z


set_option Elab.async false
set_option linter.all false
set_option autoImplicit false
set_option maxRecDepth 100000
set_option maxHeartbeats 4000000
namespace Z
open PySem L2

/-! ### enumerate(list) -/
section
variable {q : Bool} {X : Cx} {c : Cz} {z : Ez} {W : WX} {B : Bs} {P : Prg} {cl : Call}
theorem enum_len : ∀ (n : Nat) (ds : List D), (enumI n ds).length = ds.length
  | _, [] => rfl
  | n, _ :: ds => by rw [enumI, List.length_cons, enum_len (n + 1) ds, List.length_cons]
theorem enum_get : ∀ (n : Nat) (ds : List D) (i : Nat) (d : D), (enumI n ds)[i]? = some d → ∃ e, ds[i]? = some e ∧ d = .tup [.int ((n + i : Nat) : Int), e]
  | _, [], i, d, h => by simp [enumI] at h
  | n, e :: ds, 0, d, h => by
    rw [enumI] at h
    simp only [List.getElem?_cons_zero, Option.some.injEq] at h
    exact ⟨e, rfl, h.symm⟩
  | n, e :: ds, i + 1, d, h => by
    rw [enumI, List.getElem?_cons_succ] at h
    obtain ⟨e', h1, h2⟩ := enum_get (n + 1) ds i d h
    refine ⟨e', by simpa using h1, ?_⟩
    rw [h2]
    have : n + 1 + i = n + (i + 1) := by omega
    rw [this]
theorem itz_enum {a : Addr} {ds : List D} (hK : c.K = X.K) : ItZ c B (Ite X.K a) (enumI 0 ds) fun w => ∃ xs, SqL c.K w.F a xs ∧ Rs c w ds xs where
  mono := fun w w' h ⟨xs, q, r⟩ => ⟨xs, SqL_le h q, Rs.le h _ _ r⟩
  stop := fun s ⟨xs, q, r⟩ => ⟨xs, hK ▸ SqL.sub s.m.sub q, by rw [enum_len]; exact Nat.le_of_eq r.length⟩
  go := fun {i _ _ _ _ _} hi s ⟨xs, q, r⟩ => by
    rw [enum_len] at hi
    exact ⟨xs, xs[i]'(by rw [r.length]; exact hi), hK ▸ SqL.sub s.m.sub q, List.getElem?_eq_getElem _⟩
  yld := fun {i d w σ M τ H H' x} hd s ⟨xs, q, r⟩ ⟨T, y, e, hT, eH, hx⟩ => by
    subst e eH
    obtain ⟨d', h1, rfl⟩ := enum_get 0 ds i d hd
    have le : Wle w (w.add T (.tup [.int (i : Nat), y])) := .add (s.m.fresh hT).1
    have rd := r.of_get h1 (hx xs (hK ▸ SqL.sub s.m.sub q))
    refine ⟨w.add T (.tup [.int (i : Nat), y]), s.keep (keep_add s.m hT) (s.m.add hT), ⟨xs, SqL_le le q, Rs.le le _ _ r⟩, T, [.int (i : Nat), y], rfl, .inl (.inl upd_same), _, _, rfl, ?_, _, _, rfl, R.le le _ _ rd, rfl⟩
    rw [Nat.zero_add]
    rfl
theorem i_enum {e : E} {e' : PySem.Expr} {p pos tpos : Pos} {elts : List PySem.Expr} {kk : Nat} (ok : Ok q X c z W) (hg : glB X.env.scope.names "enumerate" = true) (hp : plainB e' = true) (hb : noB (.cons e .nil) = true) (ha : PA X [e'] (tF c z W (flg (.cons e .nil)) (evEs P cl (.cons e .nil)))) :
    PI X (.Tuple elts kk tpos) (.Call (.Name "enumerate" p) [e'] [] pos) (tI c z W B (itE P cl (.enum e))) := by
  obtain ⟨g1, g2, g3⟩ := glB_ok hg
  refine ⟨fun pins s τ H Q I ⟨w, σ, M, st, h⟩ => (pi_enum g1 (ok.bn _ (by decide)) ha (plain_one hp)).run pins s τ H Q I ?_⟩
  rw [itE] at h
  refine ⟨w, σ, M, st.sr, ?_⟩
  rw [evEs]
  cases e1 : evE P cl e σ M with
  | bad => rw [e1] at h; exact h
  | exc k d M1 => rw [e1] at h; exact h
  | ok d M1 =>
    rw [e1] at h
    simp only [Res.binds, evEs, Ress.binds]
    intro w1 H1 vs k1 m1 r1
    have rs := Rf.rs (flg_noB hb) r1
    obtain ⟨v, r, rfl, r2, r3⟩ := rs
    cases r3
    cases d with
    | lst ds =>
      obtain ⟨a, xs, rfl, hq, rr⟩ := r2
      exact ⟨a, xs, rfl, .inl (.inl (m1.sub _ _ hq)), h w1 H1 _ _ k1 (st.keep k1 m1) (itz_enum ok.hK) ⟨xs, .inl (.inl hq), rr⟩⟩
    | _ => exact h.elim
end
end Z


set_option Elab.async false
set_option linter.all false
set_option autoImplicit false
set_option maxRecDepth 100000
set_option maxHeartbeats 4000000
namespace Z
open PySem L2

/-- the text's names -/
structure Nz where
  fn : Nat → Option Str
  /-- the defs' second readings -/
  hf : Nat → Option Str
  cn : Nat → Option Str
  en : Nat → Option Str
  /-- the errors that are raised -/
  rn : Nat → Option Str
  gn : Nat → Option Str
  kdn : Nat → Option Str
  an : Nat → Str
  kw : Nat → Option (Str × Nat × List Str)
def isB : E → Bool
  | .bor _ => true
  | _ => false
def nmB (N : List Str) (sc : Scp) (i : Nat) (x : Str) : Bool := ixB N i x && visB sc x && !(x == ("__debug__" : Str)) && !(x == ("__classdict__" : Str))
def tyZ (n : Nz) (sc : Scp) : Ty → PySem.Expr → Bool
  | .bool_, .Name x _ => glB sc x && x == ("bool" : Str)
  | .int_, .Name x _ => glB sc x && x == ("int" : Str)
  | .str_, .Name x _ => glB sc x && x == ("str" : Str)
  | .list_, .Name x _ => glB sc x && x == ("list" : Str)
  | .tuple_, .Name x _ => glB sc x && x == ("tuple" : Str)
  | .cls k, .Name x _ => glB sc x && n.cn k == some x
  | .exc k, .Name x _ => glB sc x && n.en k == some x
  | _, _ => false
def kwN : List Keyword → List Str
  | [] => []
  | k :: ks => (k.arg.getD Str.empty) :: kwN ks
def few (as' : List PySem.Expr) : Bool := decide (as'.length < 20)
def dflT : PySem.Expr → Bool
  | .UnaryOp .Not _ _ | .BoolOp _ _ _ | .IfExp _ _ _ _ | .Compare _ _ _ _ => false
  | _ => true
def notSet : PySem.Expr → Bool
  | .Set _ _ _ => false
  | _ => true
/-- the names of a comprehension's block, as they run -/
def relM (scope : Scope) (sc : Scp) : Scp := scope.names.map fun (n, k) => if (k == NameKind.free && true && sc.lookup n == some .cell) then (n, .cell) else (n, k)
def ownOf (N : List Str) (is : List Nat) : List (Str × Nat) := is.map fun i => (N.getD i Str.empty, i)
def blkB (N : List Str) (sc : Scp) (scope : Scope) (is : List Nat) : Bool := blkC N { kind := .function, names := sc, isGenerator := false, isCoroutine := false, more := [] } scope (ownOf N is)
def isT : E → Bool
  | .lit (.bl true) => true
  | _ => false
mutual
def chE (n : Nz) (P : Prg) (N : List Str) (q : Bool) (sc : Scp) : E → PySem.Expr → Bool
  | .lit d, e0 => (match e0 with
    | .Constant c _ _ => litB d c
    | _ => false)
  | .slot i, e0 => (match e0 with
    | .Name x _ => nmB N sc i x
    | _ => false)
  | .bor i, e0 => (match e0 with
    | .Name x _ => nmB N sc i x
    | _ => false)
  | .glb g, e0 => (match e0 with
    | .Name x _ => glB sc x && n.gn g == some x
    | _ => false)
  | .bin op a b, e0 => (match e0 with
    | .BinOp a' o b' _ => opB op o && chE n P N q sc a a' && chE n P N q sc b b'
    | _ => false)
  | .neg a, e0 => (match e0 with
    | .UnaryOp .USub a' _ => chE n P N q sc a a'
    | _ => false)
  | .not_ a, e0 => (match e0 with
    | .UnaryOp .Not a' _ => chE n P N q sc a a'
    | _ => false)
  | .cmp o a b, e0 => (match e0 with
    | .Compare a' [o'] [b'] _ => cmB o o' && !behindInMarks o' b' && chE n P N q sc a a' && chE n P N q sc b b'
    | _ => false)
  | .cmp2 o p a b e, e0 => (match e0 with
    | .Compare a' [o', p'] [b', e'] _ => cmB o o' && cmB p p' && !behindInMarks p' e' && chE n P N q sc a a' && chE n P N q sc b b' && chE n P N q sc e e'
    | _ => false)
  | .and_ a b, e0 => (match e0 with
    | .BoolOp .And (a' :: b' :: r) pos => !isB a && chE n P N q sc a a' && !isB b && (match r with
      | [] => chE n P N q sc b b'
      | r0 :: rs => chE n P N q sc b (.BoolOp .And (b' :: r0 :: rs) pos))
    | _ => false)
  | .or_ a b, e0 => (match e0 with
    | .BoolOp .Or (a' :: b' :: r) pos => !isB a && chE n P N q sc a a' && !isB b && (match r with
      | [] => chE n P N q sc b b'
      | r0 :: rs => chE n P N q sc b (.BoolOp .Or (b' :: r0 :: rs) pos))
    | _ => false)
  | .ite e a b, e0 => (match e0 with
    | .IfExp e' a' b' _ => chT n P N q sc e e' && !isB a && chE n P N q sc a a' && !isB b && chE n P N q sc b b'
    | _ => false)
  | .call f as, e0 => (match e0 with
    | .Call (.Name x _) as' [] _ => q && glB sc x && n.fn f == some x && leF (flg as) (P.brw f) && as'.all plainB && chEs n P N q sc as as'
    | _ => false)
  | .callk k as zs, e0 => (match e0 with
    | .Call (.Name x _) as' kws _ => q && glB sc x && n.kw k == some (x, cnt as, kwN kws) && leF (flg as) (P.brw (P.kq k).1) && noS as && !as'.isEmpty && as'.all plainB && chEs n P N q sc as as' && chKs n P N q sc zs kws
    | _ => false)
  | .mk k as, e0 => (match e0 with
    | .Call (.Name x _) as' [] _ => q && glB sc x && n.cn k == some x && leF (flg as) (P.brw (P.ini k)).tail && as'.all plainB && chEs n P N q sc as as'
    | _ => false)
  | .mth m o as, e0 => (match e0 with
    | .Call (.Attribute o' x apos) as' [] pos => q && x == n.an m && baseB o' && apos.endLine == pos.line && few as' && as'.all plainB && noB as && !isB o && chE n P N q sc o o' && chEs n P N q sc as as'
    | _ => false)
  | .eqm m a b, e0 => (match e0 with
    | .Compare a' [.Eq] [b'] _ => q && n.an m == ("__eq__" : Str) && !isB a && chE n P N q sc a a' && !isB b && chE n P N q sc b b'
    | _ => false)
  | .nem m a b, e0 => (match e0 with
    | .Compare a' [.NotEq] [b'] _ => q && n.an m == ("__eq__" : Str) && !isB a && chE n P N q sc a a' && !isB b && chE n P N q sc b b'
    | _ => false)
  | .hcall f as, e0 => (match e0 with
    | .Call (.Name x _) (e' :: as') [] _ => !q && glB sc x && n.hf f == some x && leF (flg as) (P.brw f) && plainB e' && as'.all plainB && chEs n P N q sc as (e' :: as')
    | _ => false)
  | .att f o, e0 => (match e0 with
    | .Attribute o' x _ => x == n.an f && baseB o' && chE n P N q sc o o'
    | _ => false)
  | .idx a b, e0 => (match e0 with
    | .Subscript a' b' _ => noSlc b' && chE n P N q sc a a' && chE n P N q sc b b'
    | _ => false)
  | .slA a, e0 => (match e0 with
    | .Subscript a' (.Slice none none none _) _ => chE n P N q sc a a'
    | _ => false)
  | .slL a l, e0 => (match e0 with
    | .Subscript a' (.Slice (some l') none none _) _ => chE n P N q sc a a' && !isB l && chE n P N q sc l l'
    | _ => false)
  | .slH a h, e0 => (match e0 with
    | .Subscript a' (.Slice none (some h') none _) _ => chE n P N q sc a a' && !isB h && chE n P N q sc h h'
    | _ => false)
  | .slc a l h, e0 => (match e0 with
    | .Subscript a' (.Slice (some l') (some h') none _) _ => chE n P N q sc a a' && !isB l && chE n P N q sc l l' && !isB h && chE n P N q sc h h'
    | _ => false)
  | .tup as, e0 => (match e0 with
    | .Tuple as' _ _ => noB as && chEs n P N q sc as as'
    | _ => false)
  | .lst as, e0 => (match e0 with
    | .List as' _ => noB as && chEs n P N q sc as as'
    | _ => false)
  | .lstR as, e0 => (match e0 with
    | .List as' _ => noB as && chEs n P N q sc as as'
    | _ => false)
  | .dctR ks as, e0 => (match e0 with
    | .Dict keys es' _ => keysB ks keys && decide (ks.length = es'.length) && decide (ks.length ≤ 15) && chVs n P N q sc as es'
    | _ => false)
  | .bi b as, e0 => (match e0 with
    | .Call (.Name x _) (e' :: as') [] _ => biB q b && glB sc x && x == biN b && plainB e' && as'.all plainB && chEs n P N q sc as (e' :: as')
    | _ => false)
  | .bm b o as, e0 => (match e0 with
    | .Call (.Attribute o' x apos) (e' :: as') [] pos => (match b with
      | .split => x == ("split" : Str)
      | .join => x == ("join" : Str)
      | .get2 => x == ("get" : Str) && noB as
      | _ => false) && baseB o' && apos.endLine == pos.line && few (e' :: as') && plainB e' && as'.all plainB && chE n P N q sc o o' && chEs n P N q sc as (e' :: as')
    | _ => false)
  | .isi a ts, e0 => (match ts, e0 with
    | [t], .Call (.Name x _) [a', b'] [] _ => x == ("isinstance" : Str) && glB sc x && plainB a' && plainB b' && tyZ n sc t b' && chE n P N q sc a a'
    | _, _ => false)
  | .exf i f, e0 => (match e0 with
    | .Attribute (.Name x _) y _ => nmB N sc i x && y == n.an f
    | _ => false)
  | .exi i ts, e0 => (match ts, e0 with
    | [t], .Call (.Name x _) [.Name y _, b'] [] _ => x == ("isinstance" : Str) && glB sc x && nmB N sc i y && plainB b' && tyZ n sc t b'
    | [t1, t2], .Call (.Name x _) [.Name y _, .Tuple [b1, b2] _ _] [] _ => x == ("isinstance" : Str) && glB sc x && nmB N sc i y && plainB b1 && plainB b2 && tyZ n sc t1 b1 && tyZ n sc t2 b2
    | _, _ => false)
  | .kdx g a, e0 => (match e0 with
    | .Subscript (.Name x _) a' _ => glB sc x && n.kdn g == some x && noSlc a' && !isB a && chE n P N q sc a a'
    | _ => false)
  | .prp m o, e0 => (match e0 with
    | .Attribute o' x _ => q && x == n.an m && baseB o' && !isB o && chE n P N q sc o o'
    | _ => false)
  | .comp is it cond b, e0 => (match e0 with
    | .ListComp elt [⟨tg, iter, ifs, 0⟩] scope _ => q && blkB N sc scope is && tgtB N (relM scope sc) is tg && notSet iter && chJ n P N q sc it iter && (match ifs with
      | [] => isT cond
      | [e1] => chT n P N q (relM scope sc) cond e1
      | _ => false) && !isB b && chE n P N q (relM scope sc) b elt
    | _ => false)
/-- as a test -/
def chT (n : Nz) (P : Prg) (N : List Str) (q : Bool) (sc : Scp) : E → PySem.Expr → Bool
  | .not_ a, e0 => (match e0 with
    | .UnaryOp .Not a' _ => chT n P N q sc a a'
    | _ => false)
  | .cmp o a b, e0 => (match e0 with
    | .Compare a' [o'] [b'] _ => cmB o o' && !behindInMarks o' b' && chE n P N q sc a a' && chE n P N q sc b b'
    | _ => false)
  | .cmp2 o p a b e, e0 => (match e0 with
    | .Compare a' [o', p'] [b', e'] _ => cmB o o' && cmB p p' && !behindInMarks p' e' && chE n P N q sc a a' && chE n P N q sc b b' && chE n P N q sc e e'
    | _ => false)
  | .eqm m a b, e0 => (match e0 with
    | .Compare a' [.Eq] [b'] _ => q && n.an m == ("__eq__" : Str) && !isB a && chE n P N q sc a a' && !isB b && chE n P N q sc b b'
    | _ => false)
  | .nem m a b, e0 => (match e0 with
    | .Compare a' [.NotEq] [b'] _ => q && n.an m == ("__eq__" : Str) && !isB a && chE n P N q sc a a' && !isB b && chE n P N q sc b b'
    | _ => false)
  | .and_ a b, e0 => (match e0 with
    | .BoolOp .And (a' :: b' :: r) pos => chT n P N q sc a a' && (match r with
      | [] => chT n P N q sc b b'
      | r0 :: rs => chT n P N q sc b (.BoolOp .And (b' :: r0 :: rs) pos))
    | _ => false)
  | .or_ a b, e0 => (match e0 with
    | .BoolOp .Or (a' :: b' :: r) pos => chT n P N q sc a a' && (match r with
      | [] => chT n P N q sc b b'
      | r0 :: rs => chT n P N q sc b (.BoolOp .Or (b' :: r0 :: rs) pos))
    | _ => false)
  | .lit d, e' => dflT e' && chE n P N q sc (.lit d) e'
  | .slot i, e' => dflT e' && chE n P N q sc (.slot i) e'
  | .bor i, e' => dflT e' && chE n P N q sc (.bor i) e'
  | .glb g, e' => dflT e' && chE n P N q sc (.glb g) e'
  | .bin o a b, e' => dflT e' && chE n P N q sc (.bin o a b) e'
  | .neg a, e' => dflT e' && chE n P N q sc (.neg a) e'
  | .ite c a b, e' => dflT e' && chE n P N q sc (.ite c a b) e'
  | .call f as, e' => dflT e' && chE n P N q sc (.call f as) e'
  | .hcall f as, e' => dflT e' && chE n P N q sc (.hcall f as) e'
  | .callk k as zs, e' => dflT e' && chE n P N q sc (.callk k as zs) e'
  | .mk k as, e' => dflT e' && chE n P N q sc (.mk k as) e'
  | .mth m o as, e' => dflT e' && chE n P N q sc (.mth m o as) e'
  | .prp m o, e' => dflT e' && chE n P N q sc (.prp m o) e'
  | .att f o, e' => dflT e' && chE n P N q sc (.att f o) e'
  | .idx a b, e' => dflT e' && chE n P N q sc (.idx a b) e'
  | .slc a l h, e' => dflT e' && chE n P N q sc (.slc a l h) e'
  | .slL a l, e' => dflT e' && chE n P N q sc (.slL a l) e'
  | .slH a l, e' => dflT e' && chE n P N q sc (.slH a l) e'
  | .slA a, e' => dflT e' && chE n P N q sc (.slA a) e'
  | .tup as, e' => dflT e' && chE n P N q sc (.tup as) e'
  | .lst as, e' => dflT e' && chE n P N q sc (.lst as) e'
  | .lstR as, e' => dflT e' && chE n P N q sc (.lstR as) e'
  | .dctR ks as, e' => dflT e' && chE n P N q sc (.dctR ks as) e'
  | .bi b as, e' => dflT e' && chE n P N q sc (.bi b as) e'
  | .bm b o as, e' => dflT e' && chE n P N q sc (.bm b o as) e'
  | .isi a ts, e' => dflT e' && chE n P N q sc (.isi a ts) e'
  | .exf i f, e' => dflT e' && chE n P N q sc (.exf i f) e'
  | .exi i ts, e' => dflT e' && chE n P N q sc (.exi i ts) e'
  | .kdx g a, e' => dflT e' && chE n P N q sc (.kdx g a) e'
  | .comp is it c b, e' => dflT e' && chE n P N q sc (.comp is it c b) e'
def chEs (n : Nz) (P : Prg) (N : List Str) (q : Bool) (sc : Scp) : Es → List PySem.Expr → Bool
  | .nil, [] => true
  | .cons e es, a :: as => plainB a && !isB e && chE n P N q sc e a && chEs n P N q sc es as
  | .conB e es, a :: as => plainB a && chE n P N q sc e a && chEs n P N q sc es as
  | .star e es, .Starred a _ :: as => noB es && chE n P N q sc e a && chEs n P N q sc es as
  | _, _ => false
def chKs (n : Nz) (P : Prg) (N : List Str) (q : Bool) (sc : Scp) : Es → List Keyword → Bool
  | .nil, [] => true
  | .cons e es, ⟨some _, a, _⟩ :: as => !isB e && chE n P N q sc e a && chKs n P N q sc es as
  | _, _ => false
def chVs (n : Nz) (P : Prg) (N : List Str) (q : Bool) (sc : Scp) : Es → List PySem.Expr → Bool
  | .nil, [] => true
  | .cons e es, a :: as => !isB e && chE n P N q sc e a && chVs n P N q sc es as
  | _, _ => false
def chJ (n : Nz) (P : Prg) (N : List Str) (q : Bool) (sc : Scp) : It → PySem.Expr → Bool
  | .seq e, e0 => !isB e && chE n P N q sc e e0
  | .rng as, e0 => (match e0 with
    | .Call (.Name x _) [a] [] _ => glB sc x && x == ("range" : Str) && noB as && noS as && cnt as == 1 && plainB a && chEs n P N q sc as [a]
    | .Call (.Name x _) [a, b] [] _ => glB sc x && x == ("range" : Str) && noB as && noS as && cnt as == 2 && plainB a && plainB b && chEs n P N q sc as [a, b]
    | _ => false)
  | .lent _, _ => false
  | .enum _, _ => false
  | .zip _ _, _ => false
  | .rev _, _ => false
  | .items _, _ => false
end
/-- as a new list -/
def chN (n : Nz) (P : Prg) (N : List Str) (q : Bool) (sc : Scp) (e : E) (e' : PySem.Expr) : Bool := (match e with
  | .lst _ | .bin .add _ _ | .bin .mul _ _ | .slA _ | .slL _ _ | .slH _ _ | .slc _ _ _ | .bi .list_ _ => true
  | _ => false) && chE n P N q sc e e'
end Z


set_option Elab.async false
set_option linter.all false
set_option autoImplicit false
set_option maxRecDepth 100000
set_option maxHeartbeats 4000000
namespace Z
open PySem L2

/-! ### what the written part says of the text's names -/
structure Lk (q : Bool) (X : Cx) (c : Cz) (z : Ez) (P : Prg) (cl : Call) (n : Nz) : Prop where
  an : n.an = c.an
  fn : ∀ f x, n.fn f = some x → q = true → ∃ fa, X.mg x = some (.ref fa) ∧ FnZ X c z P cl f fa
  hfn : ∀ f x, n.hf f = some x → ∃ fa, X.mg x = some (.ref fa) ∧ FnZH X c z P cl f fa
  mkc : ∀ k x, n.cn k = some x → X.mg x = some (.ref (c.ca k)) ∧ (q = true → MkZ X c z P cl k)
  mth : ∀ k m f, P.mth k m = some f → q = true → MthZ X c z P cl k m f
  prp : ∀ k m f, P.prp k m = some f → q = true → PrpZ X c z P cl k m f
  cls : ClsZ X c P
  isa : IsaZ X c z P
  kw : ∀ k x m ks, n.kw k = some (x, m, ks) → q = true → ∃ fa, X.mg x = some (.ref fa) ∧ KqZ X c z P cl k m ks fa
  gl : ∀ g x, n.gn g = some x → GlOk X c x (P.gl g)
  kd : ∀ g x, n.kdn g = some x → KdZ X c P g x
  en : ∀ k x, n.en k = some x → X.mg x = some (.ref (z.ea k))
  rn : ∀ k x, n.rn k = some x → X.mg x = some (.ref (z.ea k)) ∧ (q = true → ErrZ X z k)
  exm : ∀ k kc t, P.exm k kc = some t → PySem.W.exmOne X.K (.ref (z.ea k)) (.ref (z.ea kc)) = some t ∧ ErrK X.K z k
  room : q = true → ∃ k, Room k X.A
  ef : ∀ k, z.ef k = c.an (P.exf k)
structure Gd (q : Bool) (X : Cx) (c : Cz) (z : Ez) (W : WX) (P : Prg) (cl : Call) (n : Nz) : Prop where
  ok : Ok q X c z W
  lk : Lk q X c z P cl n
  xo : XaOk X c z P
  nx : q = true → ∀ a k dd f, ¬ c.xa a k dd f
  fk : X.env.scope.kind = .function
  hot : q = false → L2H.HotC X
section
variable {q : Bool} {X : Cx} {c : Cz} {z : Ez} {W : WX} {B : Bs} {P : Prg} {cl : Call} {n : Nz}
theorem ands {a b : Bool} (h : (a && b) = true) : a = true ∧ b = true := Bool.and_eq_true_iff.mp h
theorem nots {a : Bool} (h : (!a) = true) : a = false := by cases a <;> first | rfl | cases h
theorem somes {x y : Str} {o : Option Str} (h : (o == some x) = true) : o = some x := by simpa using h
theorem opB_ok {op : Bin} {o : Operator} (h : opB op o = true) : toOp op = o := of_decide_eq_true h
theorem cmB_ok {op : Cm} {o : CmpOp} (h : cmB op o = true) : toCm op = o := of_decide_eq_true h
theorem nmB_ok {N : List Str} {sc : Scp} {i : Nat} {x : Str} (h : nmB N sc i x = true) : ixB N i x = true ∧ visB sc x = true ∧ (x == ("__debug__" : Str)) = false ∧ (x == ("__classdict__" : Str)) = false := by
  unfold nmB at h
  obtain ⟨h, h4⟩ := ands h
  obtain ⟨h, h3⟩ := ands h
  obtain ⟨h1, h2⟩ := ands h
  exact ⟨h1, h2, nots h3, nots h4⟩
theorem B_of {ev : Ev} {e' : PySem.Expr} (h : PE X e' (tE c z W ev)) : PE X e' (tB c z W ev) := PE.imp h fun _ _ _ => tB_tE
theorem both {e : E} {e' : PySem.Expr} (h : PE X e' (tE c z W (evE P cl e))) : PE X e' (tB c z W (evE P cl e)) ∧ (isB e = false → PE X e' (tE c z W (evE P cl e))) := ⟨B_of h, fun _ => h⟩
theorem ty_ok (g : Gd q X c z W P cl n) {t : Ty} {e' : PySem.Expr} (h : tyZ n X.env.scope.names t e' = true) : TyN X c z t e' := by
  cases t <;> cases e' <;> first | (cases h; done) | skip
  all_goals
    have h := ands h
    obtain ⟨h1, h2⟩ := h
  · have h2 := eq_of_beq h2; subst h2; exact tyN_bi h1 (g.ok.bn _ (by decide)) (by rfl) rfl
  · have h2 := eq_of_beq h2; subst h2; exact tyN_bi h1 (g.ok.bn _ (by decide)) (by rfl) rfl
  · have h2 := eq_of_beq h2; subst h2; exact tyN_bi h1 (g.ok.bn _ (by decide)) (by rfl) rfl
  · have h2 := eq_of_beq h2; subst h2; exact tyN_bi h1 (g.ok.bn _ (by decide)) (by rfl) rfl
  · have h2 := eq_of_beq h2; subst h2; exact tyN_bi h1 (g.ok.bn _ (by decide)) (by rfl) rfl
  · exact tyN_own h1 (g.lk.mkc _ _ (somes (y := Str.empty) h2)).1 rfl
  · exact tyN_own h1 (g.lk.en _ _ (somes (y := Str.empty) h2)) rfl
theorem dfl_ok {e' : PySem.Expr} (h : dflT e' = true) : ∀ whole, isTrue e' X.env whole = (do let v ← whole; standAt e'.pos; holding [v] (truthy v)) := by
  intro whole
  cases e' <;> first | (cases h; done) | rfl | skip
  rename_i op a p
  cases op <;> first | (cases h; done) | rfl
theorem leF_of {fl : List Bool} (h : fl.all (!·) = true) : ∀ gl : List Bool, leF fl gl = true := by
  induction fl with
  | nil => intro gl; rfl
  | cons a as ih =>
    intro gl
    simp only [List.all_cons, Bool.and_eq_true] at h
    simp only [leF, Bool.and_eq_true, Bool.or_eq_true]
    exact ⟨.inl h.1, ih h.2 _⟩
theorem few_dec {as' : List PySem.Expr} (h : few as' = true) : decide (as'.length < 20) = true := h
theorem FnZ.blk {f : Nat} {fa : Addr} (F : FnZ X c z P cl f fa) (s : Shared) (H : Hp) (scope : Scope) (l : List (Str × Addr)) (C : Addr) (fp : List Addr) : FnZ (X.blk s H scope (compEnvC scope l C X.env) fp) c z P cl f fa := ⟨F.ex, F.kp⟩
theorem Lk.blk (g : Lk q X c z P cl n) (s : Shared) (H : Hp) (scope : Scope) (l : List (Str × Addr)) (C : Addr) (fp : List Addr) : Lk q (X.blk s H scope (compEnvC scope l C X.env) fp) c z P cl n where
  an := g.an
  fn := fun f x h hq => let ⟨fa, h1, F⟩ := g.fn f x h hq; ⟨fa, h1, F.blk s H scope l C fp⟩
  hfn := fun f x h => let ⟨fa, h1, F⟩ := g.hfn f x h; ⟨fa, h1, ⟨F.ex, F.kp⟩⟩
  mkc := fun k x h => ⟨(g.mkc k x h).1, fun hq => let ⟨a, M, F⟩ := ((g.mkc k x h).2 hq).ex; ⟨⟨a, M, F.blk s H scope l C fp⟩⟩⟩
  mth := fun k m f h hq => let ⟨a, h1, h2, F⟩ := (g.mth k m f h hq).ex; ⟨⟨a, h1, h2, F.blk s H scope l C fp⟩, (g.mth k m f h hq).ne⟩
  prp := fun k m f h hq => let ⟨p, a, h1, h2, F⟩ := (g.prp k m f h hq).ex; ⟨p, a, h1, h2, F.blk s H scope l C fp⟩
  cls := ⟨g.cls.inj, g.cls.fld⟩
  isa := ⟨g.isa.ans, g.isa.cls⟩
  kw := fun k x m ks h hq => let ⟨fa, h1, F⟩ := g.kw k x m ks h hq; ⟨fa, h1, ⟨F.ex, F.kp⟩⟩
  gl := g.gl
  kd := fun k x h => ⟨(g.kd k x h).ex⟩
  en := g.en
  rn := fun k x h => ⟨(g.rn k x h).1, fun hq => ⟨((g.rn k x h).2 hq).ex⟩⟩
  exm := g.exm
  room := g.room
  ef := g.ef
theorem Gd.blk (g : Gd q X c z W P cl n) (hq : q = true) {scope : Scope} (hk : scope.kind = .function) (s : Shared) (H : Hp) (l : List (Str × Addr)) (C : Addr) (fp : List Addr) : Gd q (X.blk s H scope (compEnvC scope l C X.env) fp) c z noW P cl n :=
  ⟨⟨g.ok.hK, g.ok.calm, fun u s' ⟨_, _, _, _, _, _, _, _, _, _, _, _, _, _, _, _, h⟩ => h.elim, g.ok.nd, g.ok.hu, g.ok.bn⟩, g.lk.blk s H scope l C fp, xa_none g.lk.ef (g.nx hq), g.nx, hk, fun h => by rw [hq] at h; cases h⟩
theorem relN_eq (hk : X.env.scope.kind = .function) (scope : Scope) (l : List (Str × Addr)) (C : Addr) : (compEnvC scope l C X.env).scope.names = relM scope X.env.scope.names := by
  show (relabel scope X.env).names = _
  unfold relabel relM
  rw [hk]
  rfl
theorem blkB_ok {is : List Nat} {scope : Scope} (h : blkB X.N X.env.scope.names scope is = true) : BlkOk X.N X.env.scope scope (ownOf X.N is) := by
  have b := blkOk_by h
  exact ⟨b.kind, b.uniq, b.ix, b.free, b.own⟩
theorem ownOf_is (N : List Str) (is : List Nat) : (ownOf N is).map (·.2) = is := by
  unfold ownOf
  rw [List.map_map]
  exact List.map_id' is
theorem isT_ok {e : E} (h : isT e = true) : e = .lit (.bl true) := by
  unfold isT at h
  split at h
  · rfl
  · cases h
theorem set_ok {e' : PySem.Expr} (h : notSet e' = true) : ∀ x, foldedSetIterable e' X.env x = Pure.pure x := by
  intro x
  cases e' <;> first | (cases h; done) | rfl
theorem pts_yes : PTs X [] (tTr c z W (evE P cl (.lit (.bl true)))) := by
  refine ⟨fun pins s σ H Q I h => pts_nil.run pins s σ H Q I ?_⟩
  obtain ⟨w, σ', M, st, h⟩ := h
  have h : Sat c z _ w M H (.ok (.bl true) M) _ := h
  obtain ⟨b, hb, h⟩ := h w H (.bl true) .refl st.m rfl
  cases hb
  exact h
mutual
theorem okE0 : ∀ (e : E) (X : Cx) (W : WX) (g : Gd q X c z W P cl n) (e' : PySem.Expr), chE n P X.N q X.env.scope.names e e' = true → PE X e' (tB c z W (evE P cl e)) ∧ (isB e = false → PE X e' (tE c z W (evE P cl e)))
  | .lit d, X, W, g, e', h => by
    rw [chE.eq_def] at h; dsimp only at h; split at h
    · exact both (e_lit h P cl)
    · cases h
  | .slot i, X, W, g, e', h => by
    rw [chE.eq_def] at h; dsimp only at h; split at h
    · obtain ⟨h1, h2, h3, h4⟩ := nmB_ok h
      exact both (e_slot (ixB_ok h1) (visB_ok h2) h3 h4 P cl)
    · cases h
  | .bor i, X, W, g, e', h => by
    rw [chE.eq_def] at h; dsimp only at h; split at h
    · obtain ⟨h1, h2, h3, h4⟩ := nmB_ok h
      exact ⟨e_bor (ixB_ok h1) (visB_ok h2) h3 h4 P cl, fun z => by cases z⟩
    · cases h
  | .glb k, X, W, g, e', h => by
    rw [chE.eq_def] at h; dsimp only at h; split at h
    · obtain ⟨h1, h2⟩ := ands h
      exact both (e_glb P cl h1 (g.lk.gl _ _ (somes (y := Str.empty) h2)))
    · cases h
  | .bin op a b, X, W, g, e', h => by
    rw [chE.eq_def] at h; dsimp only at h; split at h
    · obtain ⟨h, h3⟩ := ands h
      obtain ⟨h1, h2⟩ := ands h
      have e := opB_ok h1
      subst e
      exact both (e_bin g.ok (okE0 a _ _ g _ h2).1 (okE0 b _ _ g _ h3).1)
    · cases h
  | .neg a, X, W, g, e', h => by
    rw [chE.eq_def] at h; dsimp only at h; split at h
    · exact both (e_neg (okE0 a _ _ g _ h).1)
    · cases h
  | .not_ a, X, W, g, e', h => by
    rw [chE.eq_def] at h; dsimp only at h; split at h
    · exact both (e_not g.ok (okE0 a _ _ g _ h).1)
    · cases h
  | .cmp o a b, X, W, g, e', h => by
    rw [chE.eq_def] at h; dsimp only at h; split at h
    · obtain ⟨h, h4⟩ := ands h
      obtain ⟨h, h3⟩ := ands h
      obtain ⟨h1, h2⟩ := ands h
      have e := cmB_ok h1
      subst e
      exact both (e_cmp g.ok (nots h2) (okE0 a _ _ g _ h3).1 (okE0 b _ _ g _ h4).1)
    · cases h
  | .cmp2 o p a b e, X, W, g, e', h => by
    rw [chE.eq_def] at h; dsimp only at h; split at h
    · obtain ⟨h, h6⟩ := ands h
      obtain ⟨h, h5⟩ := ands h
      obtain ⟨h, h4⟩ := ands h
      obtain ⟨h, h3⟩ := ands h
      obtain ⟨h1, h2⟩ := ands h
      have e1 := cmB_ok h1
      have e2 := cmB_ok h2
      subst e1 e2
      exact both (e_cmp2 g.ok (nots h3) (okE0 a _ _ g _ h4).1 (okE0 b _ _ g _ h5).1 (okE0 e _ _ g _ h6).1)
    · cases h
  | .and_ a b, X, W, g, e', h => by
    rw [chE.eq_def] at h; dsimp only at h; split at h
    · obtain ⟨h, h4⟩ := ands h
      obtain ⟨h, h3⟩ := ands h
      obtain ⟨h1, h2⟩ := ands h
      refine both (e_and g.ok ((okE0 a _ _ g _ h2).2 (nots h1)) ?_)
      split at h4
      · exact pe_one ((okE0 b _ _ g _ h4).2 (nots h3))
      · exact (okE0 b _ _ g _ h4).2 (nots h3)
    · cases h
  | .or_ a b, X, W, g, e', h => by
    rw [chE.eq_def] at h; dsimp only at h; split at h
    · obtain ⟨h, h4⟩ := ands h
      obtain ⟨h, h3⟩ := ands h
      obtain ⟨h1, h2⟩ := ands h
      refine both (e_or g.ok ((okE0 a _ _ g _ h2).2 (nots h1)) ?_)
      split at h4
      · exact pe_one ((okE0 b _ _ g _ h4).2 (nots h3))
      · exact (okE0 b _ _ g _ h4).2 (nots h3)
    · cases h
  | .ite e a b, X, W, g, e', h => by
    rw [chE.eq_def] at h; dsimp only at h; split at h
    · obtain ⟨h, h5⟩ := ands h
      obtain ⟨h, h4⟩ := ands h
      obtain ⟨h, h3⟩ := ands h
      obtain ⟨h1, h2⟩ := ands h
      exact both (e_ite (okT0 e _ _ g _ h1) ((okE0 a _ _ g _ h3).2 (nots h2)) ((okE0 b _ _ g _ h5).2 (nots h4)))
    · cases h
  | .call f as, X, W, g, e', h => by
    rw [chE.eq_def] at h; dsimp only at h; split at h
    · rename_i x p1 as' p2
      obtain ⟨h, h6⟩ := ands h
      obtain ⟨h, h5⟩ := ands h
      obtain ⟨h, h4⟩ := ands h
      obtain ⟨h, h3⟩ := ands h
      obtain ⟨h1, h2⟩ := ands h
      obtain ⟨fa, hm, F⟩ := g.lk.fn _ _ (somes (y := Str.empty) h3) h1
      cases as' with
      | nil =>
        cases as with
        | nil => exact both (e_call0 g.ok F hm h2)
        | _ => rw [chEs.eq_def] at h6; cases h6
      | cons a0 as' =>
        obtain ⟨h5a, h5b⟩ := ands h5
        exact both (e_call g.ok F hm h2 h5a h5b h4 (okEs0 as _ _ g _ h6))
    · cases h
  | .callk k as zs, X, W, g, e', h => by
    rw [chE.eq_def] at h; dsimp only at h; split at h
    · rename_i x p1 as' kws p2
      obtain ⟨h, h9⟩ := ands h
      obtain ⟨h, h8⟩ := ands h
      obtain ⟨h, h7⟩ := ands h
      obtain ⟨h, h6⟩ := ands h
      obtain ⟨h, h5⟩ := ands h
      obtain ⟨h, h4⟩ := ands h
      obtain ⟨h, h3⟩ := ands h
      obtain ⟨h1, h2⟩ := ands h
      obtain ⟨fa, hm, F⟩ := g.lk.kw _ _ _ _ (by simpa using h3) h1
      cases as' with
      | nil => cases h6
      | cons a0 as' =>
        obtain ⟨h7a, h7b⟩ := ands h7
        exact both (e_callk g.ok F hm h2 h7a h7b h5 h4 (okEs0 as _ _ g _ h8) (okKs0 zs _ _ g kws h9))
    · cases h
  | .mk k as, X, W, g, e', h => by
    rw [chE.eq_def] at h; dsimp only at h; split at h
    · rename_i x p1 as' p2
      obtain ⟨h, h6⟩ := ands h
      obtain ⟨h, h5⟩ := ands h
      obtain ⟨h, h4⟩ := ands h
      obtain ⟨h, h3⟩ := ands h
      obtain ⟨h1, h2⟩ := ands h
      obtain ⟨hm, M0⟩ := g.lk.mkc _ _ (somes (y := Str.empty) h3)
      cases as' with
      | nil =>
        cases as with
        | nil => exact both (e_mk0 g.ok (M0 h1) hm h2)
        | _ => rw [chEs.eq_def] at h6; cases h6
      | cons a0 as' =>
        obtain ⟨h5a, h5b⟩ := ands h5
        exact both (e_mk g.ok (M0 h1) hm h2 h5a h5b h4 (okEs0 as _ _ g _ h6))
    · cases h
  | .mth m o as, X, W, g, e', h => by
    rw [chE.eq_def] at h; dsimp only at h; split at h
    · rename_i o' x apos as' pos
      obtain ⟨h, h10⟩ := ands h
      obtain ⟨h, h9⟩ := ands h
      obtain ⟨h, h8⟩ := ands h
      obtain ⟨h, h7⟩ := ands h
      obtain ⟨h, h6⟩ := ands h
      obtain ⟨h, h5⟩ := ands h
      obtain ⟨h, h4⟩ := ands h
      obtain ⟨h, h3⟩ := ands h
      obtain ⟨h1, h2⟩ := ands h
      have hx := eq_of_beq h2
      subst hx
      rw [g.lk.an]
      cases as' with
      | nil =>
        cases as with
        | nil => exact both (e_mth0 g.ok g.lk.cls (fun k f e => g.lk.mth k m f e h1) h3 h4 ((okE0 o _ _ g _ h9).2 (nots h8)))
        | _ => rw [chEs.eq_def] at h10; cases h10
      | cons a0 as' =>
        obtain ⟨h6a, h6b⟩ := ands h6
        exact both (e_mth g.ok g.lk.cls (fun k f e => g.lk.mth k m f e h1) h3 h4 (few_dec h5) h6a h6b (fun k f _ => leF_of (flg_noB h7) _) ((okE0 o _ _ g _ h9).2 (nots h8)) (okEs0 as _ _ g _ h10))
    · cases h
  | .prp m o, X, W, g, e', h => by
    rw [chE.eq_def] at h; dsimp only at h; split at h
    · obtain ⟨h, h5⟩ := ands h
      obtain ⟨h, h4⟩ := ands h
      obtain ⟨h, h3⟩ := ands h
      obtain ⟨h1, h2⟩ := ands h
      have hx := eq_of_beq h2
      subst hx
      rw [g.lk.an]
      exact both (e_prp (fun k f e => g.lk.prp k m f e h1) h3 ((okE0 o _ _ g _ h5).2 (nots h4)))
    · cases h
  | .eqm m a b, X, W, g, e', h => by
    rw [chE.eq_def] at h; dsimp only at h; split at h
    · obtain ⟨h, h6⟩ := ands h
      obtain ⟨h, h5⟩ := ands h
      obtain ⟨h, h4⟩ := ands h
      obtain ⟨h, h3⟩ := ands h
      obtain ⟨h1, h2⟩ := ands h
      have hx := eq_of_beq h2
      rw [g.lk.an] at hx
      exact both (e_eqm g.ok (fun k f e => g.lk.mth k m f e h1) hx ((okE0 a _ _ g _ h4).2 (nots h3)) ((okE0 b _ _ g _ h6).2 (nots h5)))
    · cases h
  | .nem m a b, X, W, g, e', h => by
    rw [chE.eq_def] at h; dsimp only at h; split at h
    · obtain ⟨h, h6⟩ := ands h
      obtain ⟨h, h5⟩ := ands h
      obtain ⟨h, h4⟩ := ands h
      obtain ⟨h, h3⟩ := ands h
      obtain ⟨h1, h2⟩ := ands h
      have hx := eq_of_beq h2
      rw [g.lk.an] at hx
      exact both (e_nem g.ok (fun k f e => g.lk.mth k m f e h1) hx ((okE0 a _ _ g _ h4).2 (nots h3)) ((okE0 b _ _ g _ h6).2 (nots h5)))
    · cases h
  | .hcall f as, X, W, g, e', h => by
    rw [chE.eq_def] at h; dsimp only at h; split at h
    · obtain ⟨h, h7⟩ := ands h
      obtain ⟨h, h6⟩ := ands h
      obtain ⟨h, h5⟩ := ands h
      obtain ⟨h, h4⟩ := ands h
      obtain ⟨h, h3⟩ := ands h
      obtain ⟨h1, h2⟩ := ands h
      obtain ⟨fa, hm, F⟩ := g.lk.hfn f _ (somes (y := Str.empty) h3)
      exact both (e_hcall g.ok (g.hot (nots h1)) F hm h2 h5 h6 h4 (okEs0 as _ _ g _ h7))
    · cases h
  | .att f o, X, W, g, e', h => by
    rw [chE.eq_def] at h; dsimp only at h; split at h
    · obtain ⟨h, h3⟩ := ands h
      obtain ⟨h1, h2⟩ := ands h
      have hx := eq_of_beq h1
      subst hx
      rw [g.lk.an]
      exact both (e_att g.lk.cls h2 (okE0 o _ _ g _ h3).1)
    · cases h
  | .idx a b, X, W, g, e', h => by
    rw [chE.eq_def] at h; dsimp only at h; split at h
    · obtain ⟨h, h3⟩ := ands h
      obtain ⟨h1, h2⟩ := ands h
      exact both (e_idx g.ok h1 (okE0 a _ _ g _ h2).1 (okE0 b _ _ g _ h3).1)
    · cases h
  | .slA a, X, W, g, e', h => by
    rw [chE.eq_def] at h; dsimp only at h; split at h
    · exact both (e_slA g.ok (okE0 a _ _ g _ h).1)
    · cases h
  | .slL a l, X, W, g, e', h => by
    rw [chE.eq_def] at h; dsimp only at h; split at h
    · obtain ⟨h, h3⟩ := ands h
      obtain ⟨h1, h2⟩ := ands h
      exact both (e_slL g.ok (okE0 a _ _ g _ h1).1 ((okE0 l _ _ g _ h3).2 (nots h2)))
    · cases h
  | .slH a l, X, W, g, e', h => by
    rw [chE.eq_def] at h; dsimp only at h; split at h
    · obtain ⟨h, h3⟩ := ands h
      obtain ⟨h1, h2⟩ := ands h
      exact both (e_slH g.ok (okE0 a _ _ g _ h1).1 ((okE0 l _ _ g _ h3).2 (nots h2)))
    · cases h
  | .slc a l r, X, W, g, e', h => by
    rw [chE.eq_def] at h; dsimp only at h; split at h
    · obtain ⟨h, h5⟩ := ands h
      obtain ⟨h, h4⟩ := ands h
      obtain ⟨h, h3⟩ := ands h
      obtain ⟨h1, h2⟩ := ands h
      exact both (e_slc g.ok (okE0 a _ _ g _ h1).1 ((okE0 l _ _ g _ h3).2 (nots h2)) ((okE0 r _ _ g _ h5).2 (nots h4)))
    · cases h
  | .tup as, X, W, g, e', h => by
    rw [chE.eq_def] at h; dsimp only at h; split at h
    · obtain ⟨h1, h2⟩ := ands h
      exact both (e_tup h1 (okEs0 as _ _ g _ h2))
    · cases h
  | .lst as, X, W, g, e', h => by
    rw [chE.eq_def] at h; dsimp only at h; split at h
    · obtain ⟨h1, h2⟩ := ands h
      exact both (e_lst h1 (okEs0 as _ _ g _ h2))
    · cases h
  | .lstR as, X, W, g, e', h => by
    rw [chE.eq_def] at h; dsimp only at h; split at h
    · obtain ⟨h1, h2⟩ := ands h
      exact both (e_lstR h1 (okEs0 as _ _ g _ h2))
    · cases h
  | .dctR ks as, X, W, g, e', h => by
    rw [chE.eq_def] at h; dsimp only at h; split at h
    · obtain ⟨h, h4⟩ := ands h
      obtain ⟨h, h3⟩ := ands h
      obtain ⟨h1, h2⟩ := ands h
      exact both (e_dctR h1 (of_decide_eq_true h2) (of_decide_eq_true h3) (okVs0 as _ _ g _ h4))
    · cases h
  | .bi b as, X, W, g, e', h => by
    rw [chE.eq_def] at h; dsimp only at h; split at h
    · obtain ⟨h, h6⟩ := ands h
      obtain ⟨h, h5⟩ := ands h
      obtain ⟨h, h4⟩ := ands h
      obtain ⟨h, h3⟩ := ands h
      obtain ⟨h1, h2⟩ := ands h
      have hx := eq_of_beq h3
      subst hx
      exact both (e_bi g.ok h1 h2 h4 h5 (okEs0 as _ _ g _ h6))
    · cases h
  | .bm b o as, X, W, g, e', h => by
    rw [chE.eq_def] at h; dsimp only at h; split at h
    · obtain ⟨h, h8⟩ := ands h
      obtain ⟨h, h7⟩ := ands h
      obtain ⟨h, h6⟩ := ands h
      obtain ⟨h, h5⟩ := ands h
      obtain ⟨h, h4⟩ := ands h
      obtain ⟨h, h3⟩ := ands h
      obtain ⟨h1, h2⟩ := ands h
      cases b <;> first | (cases h1; done) | skip
      · have hx := eq_of_beq h1; subst hx
        exact both (e_split h2 h3 (few_dec h4) h5 h6 (okE0 o _ _ g _ h7).1 (okEs0 as _ _ g _ h8))
      · have hx := eq_of_beq h1; subst hx
        exact both (e_join g.ok h2 h3 (few_dec h4) h5 h6 (okE0 o _ _ g _ h7).1 (okEs0 as _ _ g _ h8))
      · obtain ⟨h1, h1b⟩ := ands h1
        have hx := eq_of_beq h1; subst hx
        exact both (e_get2 g.ok h2 h3 (few_dec h4) h5 h6 h1b (okE0 o _ _ g _ h7).1 (okEs0 as _ _ g _ h8))
    · cases h
  | .isi a ts, X, W, g, e', h => by
    rw [chE.eq_def] at h; dsimp only at h; split at h
    · obtain ⟨h, h6⟩ := ands h
      obtain ⟨h, h5⟩ := ands h
      obtain ⟨h, h4⟩ := ands h
      obtain ⟨h, h3⟩ := ands h
      obtain ⟨h1, h2⟩ := ands h
      have hx := eq_of_beq h1
      subst hx
      exact both (e_isi g.ok g.lk.isa h2 h3 h4 (ty_ok g h5) (okE0 a _ _ g _ h6).1)
    · cases h
  | .exf i f, X, W, g, e', h => by
    rw [chE.eq_def] at h; dsimp only at h; split at h
    · obtain ⟨h1, h2⟩ := ands h
      obtain ⟨k1, k2, k3, k4⟩ := nmB_ok h1
      have hx := eq_of_beq h2
      subst hx
      rw [g.lk.an]
      exact both (e_exf g.xo (ixB_ok k1) (visB_ok k2) k3 k4)
    · cases h
  | .exi i ts, X, W, g, e', h => by
    rw [chE.eq_def] at h; dsimp only at h; split at h
    · obtain ⟨h, h5⟩ := ands h
      obtain ⟨h, h4⟩ := ands h
      obtain ⟨h, h3⟩ := ands h
      obtain ⟨h1, h2⟩ := ands h
      have hx := eq_of_beq h1
      subst hx
      obtain ⟨k1, k2, k3, k4⟩ := nmB_ok h3
      exact both (e_exi g.ok g.lk.isa g.xo h2 (ixB_ok k1) (visB_ok k2) k3 k4 h4 (ty_ok g h5))
    · obtain ⟨h, h7⟩ := ands h
      obtain ⟨h, h6⟩ := ands h
      obtain ⟨h, h5⟩ := ands h
      obtain ⟨h, h4⟩ := ands h
      obtain ⟨h, h3⟩ := ands h
      obtain ⟨h1, h2⟩ := ands h
      have hx := eq_of_beq h1
      subst hx
      obtain ⟨k1, k2, k3, k4⟩ := nmB_ok h3
      exact both (e_exi2 g.ok g.lk.isa g.xo h2 (ixB_ok k1) (visB_ok k2) k3 k4 h4 h5 (ty_ok g h6) (ty_ok g h7))
    · cases h
  | .kdx k a, X, W, g, e', h => by
    rw [chE.eq_def] at h; dsimp only at h; split at h
    · obtain ⟨h, h5⟩ := ands h
      obtain ⟨h, h4⟩ := ands h
      obtain ⟨h, h3⟩ := ands h
      obtain ⟨h1, h2⟩ := ands h
      exact both (e_kdx (g.lk.kd _ _ (somes (y := Str.empty) h2)) h1 h3 ((okE0 a _ _ g _ h5).2 (nots h4)))
    · cases h
  | .comp is it cond b, X, W, g, e', h => by
    rw [chE.eq_def] at h; dsimp only at h; split at h
    · rename_i elt tg iter ifs scope p
      obtain ⟨h, h8⟩ := ands h
      obtain ⟨h, h7⟩ := ands h
      obtain ⟨h, h6⟩ := ands h
      obtain ⟨h, h5⟩ := ands h
      obtain ⟨h, h4⟩ := ands h
      obtain ⟨h, h3⟩ := ands h
      obtain ⟨h1, h2⟩ := ands h
      have bo := blkB_ok h2
      refine both (e_comp g.ok h1 bo (ownOf_is _ is) (okJ0 it _ _ g iter h5) (fun s H C l fp => ?_) (fun s H C l fp => ?_) (fun s H C l fp => ?_) (set_ok h4))
      · exact pg_I (g.blk h1 bo.kind s H l C fp).ok h1 (by
          show tgtB _ (compEnvC scope l C _).scope.names is tg = true
          rw [relN_eq g.fk]; exact h3)
      · match ifs, h6 with
        | [], h6 =>
          rw [isT_ok h6]
          exact pts_yes
        | [e1], h6 => exact pts_one (okT0 cond _ _ (g.blk h1 bo.kind s H l C fp) e1 (by
          show chT _ _ _ _ (compEnvC scope l C _).scope.names cond e1 = true
          rw [relN_eq g.fk]; exact h6))
        | _ :: _ :: _, h6 => cases h6
      · exact (okE0 b _ _ (g.blk h1 bo.kind s H l C fp) elt (by
          show chE _ _ _ _ (compEnvC scope l C _).scope.names b elt = true
          rw [relN_eq g.fk]; exact h8)).2 (nots h7)
    · cases h
theorem okT0 : ∀ (e : E) (X : Cx) (W : WX) (g : Gd q X c z W P cl n) (e' : PySem.Expr), chT n P X.N q X.env.scope.names e e' = true → PT X e' (tTr c z W (evE P cl e))
  | .not_ a, X, W, g, e', h => by
    rw [chT.eq_def] at h; dsimp only at h; split at h
    · exact t_not (okT0 a _ _ g _ h)
    · cases h
  | .cmp o a b, X, W, g, e', h => by
    rw [chT.eq_def] at h; dsimp only at h; split at h
    · obtain ⟨h, h4⟩ := ands h
      obtain ⟨h, h3⟩ := ands h
      obtain ⟨h1, h2⟩ := ands h
      have e := cmB_ok h1
      subst e
      exact t_cmp g.ok (nots h2) (okE0 a _ _ g _ h3).1 (okE0 b _ _ g _ h4).1
    · cases h
  | .cmp2 o p a b e, X, W, g, e', h => by
    rw [chT.eq_def] at h; dsimp only at h; split at h
    · obtain ⟨h, h6⟩ := ands h
      obtain ⟨h, h5⟩ := ands h
      obtain ⟨h, h4⟩ := ands h
      obtain ⟨h, h3⟩ := ands h
      obtain ⟨h1, h2⟩ := ands h
      have e1 := cmB_ok h1
      have e2 := cmB_ok h2
      subst e1 e2
      exact t_cmp2 g.ok (nots h3) (okE0 a _ _ g _ h4).1 (okE0 b _ _ g _ h5).1 (okE0 e _ _ g _ h6).1
    · cases h
  | .eqm m a b, X, W, g, e', h => by
    rw [chT.eq_def] at h; dsimp only at h; split at h
    · obtain ⟨h, h6⟩ := ands h
      obtain ⟨h, h5⟩ := ands h
      obtain ⟨h, h4⟩ := ands h
      obtain ⟨h, h3⟩ := ands h
      obtain ⟨h1, h2⟩ := ands h
      have hx := eq_of_beq h2
      rw [g.lk.an] at hx
      exact (t_eqm g.ok (fun k f e => g.lk.mth k m f e h1) hx ((okE0 a _ _ g _ h4).2 (nots h3)) ((okE0 b _ _ g _ h6).2 (nots h5)))
    · cases h
  | .nem m a b, X, W, g, e', h => by
    rw [chT.eq_def] at h; dsimp only at h; split at h
    · obtain ⟨h, h6⟩ := ands h
      obtain ⟨h, h5⟩ := ands h
      obtain ⟨h, h4⟩ := ands h
      obtain ⟨h, h3⟩ := ands h
      obtain ⟨h1, h2⟩ := ands h
      have hx := eq_of_beq h2
      rw [g.lk.an] at hx
      exact (t_nem g.ok (fun k f e => g.lk.mth k m f e h1) hx ((okE0 a _ _ g _ h4).2 (nots h3)) ((okE0 b _ _ g _ h6).2 (nots h5)))
    · cases h
  | .and_ a b, X, W, g, e', h => by
    rw [chT.eq_def] at h; dsimp only at h; split at h
    · obtain ⟨h1, h2⟩ := ands h
      refine t_and (okT0 a _ _ g _ h1) ?_
      split at h2
      · exact pw_and1 (okT0 b _ _ g _ h2)
      · exact PT.pw (okT0 b _ _ g _ h2)
    · cases h
  | .or_ a b, X, W, g, e', h => by
    rw [chT.eq_def] at h; dsimp only at h; split at h
    · obtain ⟨h1, h2⟩ := ands h
      refine t_or (okT0 a _ _ g _ h1) ?_
      split at h2
      · exact pw_or1 (okT0 b _ _ g _ h2)
      · exact PT.pw (okT0 b _ _ g _ h2)
    · cases h
  | .lit d, X, W, g, e', h => by
    rw [chT.eq_def] at h; dsimp only at h
    obtain ⟨h1, h2⟩ := ands h
    exact t_val g.ok (okE0 (.lit d) _ _ g _ h2).1 (dfl_ok h1)
  | .slot i, X, W, g, e', h => by
    rw [chT.eq_def] at h; dsimp only at h
    obtain ⟨h1, h2⟩ := ands h
    exact t_val g.ok (okE0 (.slot i) _ _ g _ h2).1 (dfl_ok h1)
  | .bor i, X, W, g, e', h => by
    rw [chT.eq_def] at h; dsimp only at h
    obtain ⟨h1, h2⟩ := ands h
    exact t_val g.ok (okE0 (.bor i) _ _ g _ h2).1 (dfl_ok h1)
  | .glb k, X, W, g, e', h => by
    rw [chT.eq_def] at h; dsimp only at h
    obtain ⟨h1, h2⟩ := ands h
    exact t_val g.ok (okE0 (.glb k) _ _ g _ h2).1 (dfl_ok h1)
  | .bin o a b, X, W, g, e', h => by
    rw [chT.eq_def] at h; dsimp only at h
    obtain ⟨h1, h2⟩ := ands h
    exact t_val g.ok (okE0 (.bin o a b) _ _ g _ h2).1 (dfl_ok h1)
  | .neg a, X, W, g, e', h => by
    rw [chT.eq_def] at h; dsimp only at h
    obtain ⟨h1, h2⟩ := ands h
    exact t_val g.ok (okE0 (.neg a) _ _ g _ h2).1 (dfl_ok h1)
  | .ite e a b, X, W, g, e', h => by
    rw [chT.eq_def] at h; dsimp only at h
    obtain ⟨h1, h2⟩ := ands h
    exact t_val g.ok (okE0 (.ite e a b) _ _ g _ h2).1 (dfl_ok h1)
  | .call f as, X, W, g, e', h => by
    rw [chT.eq_def] at h; dsimp only at h
    obtain ⟨h1, h2⟩ := ands h
    exact t_val g.ok (okE0 (.call f as) _ _ g _ h2).1 (dfl_ok h1)
  | .hcall f as, X, W, g, e', h => by
    rw [chT.eq_def] at h; dsimp only at h
    obtain ⟨h1, h2⟩ := ands h
    exact t_val g.ok (okE0 (.hcall f as) _ _ g _ h2).1 (dfl_ok h1)
  | .callk k as zs, X, W, g, e', h => by
    rw [chT.eq_def] at h; dsimp only at h
    obtain ⟨h1, h2⟩ := ands h
    exact t_val g.ok (okE0 (.callk k as zs) _ _ g _ h2).1 (dfl_ok h1)
  | .mk k as, X, W, g, e', h => by
    rw [chT.eq_def] at h; dsimp only at h
    obtain ⟨h1, h2⟩ := ands h
    exact t_val g.ok (okE0 (.mk k as) _ _ g _ h2).1 (dfl_ok h1)
  | .mth m o as, X, W, g, e', h => by
    rw [chT.eq_def] at h; dsimp only at h
    obtain ⟨h1, h2⟩ := ands h
    exact t_val g.ok (okE0 (.mth m o as) _ _ g _ h2).1 (dfl_ok h1)
  | .prp m o, X, W, g, e', h => by
    rw [chT.eq_def] at h; dsimp only at h
    obtain ⟨h1, h2⟩ := ands h
    exact t_val g.ok (okE0 (.prp m o) _ _ g _ h2).1 (dfl_ok h1)
  | .att f o, X, W, g, e', h => by
    rw [chT.eq_def] at h; dsimp only at h
    obtain ⟨h1, h2⟩ := ands h
    exact t_val g.ok (okE0 (.att f o) _ _ g _ h2).1 (dfl_ok h1)
  | .idx a b, X, W, g, e', h => by
    rw [chT.eq_def] at h; dsimp only at h
    obtain ⟨h1, h2⟩ := ands h
    exact t_val g.ok (okE0 (.idx a b) _ _ g _ h2).1 (dfl_ok h1)
  | .slc a l r, X, W, g, e', h => by
    rw [chT.eq_def] at h; dsimp only at h
    obtain ⟨h1, h2⟩ := ands h
    exact t_val g.ok (okE0 (.slc a l r) _ _ g _ h2).1 (dfl_ok h1)
  | .slL a l, X, W, g, e', h => by
    rw [chT.eq_def] at h; dsimp only at h
    obtain ⟨h1, h2⟩ := ands h
    exact t_val g.ok (okE0 (.slL a l) _ _ g _ h2).1 (dfl_ok h1)
  | .slH a l, X, W, g, e', h => by
    rw [chT.eq_def] at h; dsimp only at h
    obtain ⟨h1, h2⟩ := ands h
    exact t_val g.ok (okE0 (.slH a l) _ _ g _ h2).1 (dfl_ok h1)
  | .slA a, X, W, g, e', h => by
    rw [chT.eq_def] at h; dsimp only at h
    obtain ⟨h1, h2⟩ := ands h
    exact t_val g.ok (okE0 (.slA a) _ _ g _ h2).1 (dfl_ok h1)
  | .tup as, X, W, g, e', h => by
    rw [chT.eq_def] at h; dsimp only at h
    obtain ⟨h1, h2⟩ := ands h
    exact t_val g.ok (okE0 (.tup as) _ _ g _ h2).1 (dfl_ok h1)
  | .lst as, X, W, g, e', h => by
    rw [chT.eq_def] at h; dsimp only at h
    obtain ⟨h1, h2⟩ := ands h
    exact t_val g.ok (okE0 (.lst as) _ _ g _ h2).1 (dfl_ok h1)
  | .lstR as, X, W, g, e', h => by
    rw [chT.eq_def] at h; dsimp only at h
    obtain ⟨h1, h2⟩ := ands h
    exact t_val g.ok (okE0 (.lstR as) _ _ g _ h2).1 (dfl_ok h1)
  | .dctR ks as, X, W, g, e', h => by
    rw [chT.eq_def] at h; dsimp only at h
    obtain ⟨h1, h2⟩ := ands h
    exact t_val g.ok (okE0 (.dctR ks as) _ _ g _ h2).1 (dfl_ok h1)
  | .bi b as, X, W, g, e', h => by
    rw [chT.eq_def] at h; dsimp only at h
    obtain ⟨h1, h2⟩ := ands h
    exact t_val g.ok (okE0 (.bi b as) _ _ g _ h2).1 (dfl_ok h1)
  | .bm b o as, X, W, g, e', h => by
    rw [chT.eq_def] at h; dsimp only at h
    obtain ⟨h1, h2⟩ := ands h
    exact t_val g.ok (okE0 (.bm b o as) _ _ g _ h2).1 (dfl_ok h1)
  | .isi a ts, X, W, g, e', h => by
    rw [chT.eq_def] at h; dsimp only at h
    obtain ⟨h1, h2⟩ := ands h
    exact t_val g.ok (okE0 (.isi a ts) _ _ g _ h2).1 (dfl_ok h1)
  | .exf i f, X, W, g, e', h => by
    rw [chT.eq_def] at h; dsimp only at h
    obtain ⟨h1, h2⟩ := ands h
    exact t_val g.ok (okE0 (.exf i f) _ _ g _ h2).1 (dfl_ok h1)
  | .exi i ts, X, W, g, e', h => by
    rw [chT.eq_def] at h; dsimp only at h
    obtain ⟨h1, h2⟩ := ands h
    exact t_val g.ok (okE0 (.exi i ts) _ _ g _ h2).1 (dfl_ok h1)
  | .kdx k a, X, W, g, e', h => by
    rw [chT.eq_def] at h; dsimp only at h
    obtain ⟨h1, h2⟩ := ands h
    exact t_val g.ok (okE0 (.kdx k a) _ _ g _ h2).1 (dfl_ok h1)
  | .comp is it cond b, X, W, g, e', h => by
    rw [chT.eq_def] at h; dsimp only at h
    obtain ⟨h1, h2⟩ := ands h
    exact t_val g.ok (okE0 (.comp is it cond b) _ _ g _ h2).1 (dfl_ok h1)
theorem okEs0 : ∀ (es : Es) (X : Cx) (W : WX) (g : Gd q X c z W P cl n) (es' : List PySem.Expr), chEs n P X.N q X.env.scope.names es es' = true → PA X es' (tF c z W (flg es) (evEs P cl es))
  | .nil, X, W, g, [], _ => a_nil
  | .nil, X, W, g, _ :: _, h => by rw [chEs.eq_def] at h; cases h
  | .cons _ _, X, W, g, [], h => by rw [chEs.eq_def] at h; cases h
  | .conB _ _, X, W, g, [], h => by rw [chEs.eq_def] at h; cases h
  | .star _ _, X, W, g, [], h => by rw [chEs.eq_def] at h; cases h
  | .cons e es, X, W, g, a :: as, h => by
    rw [chEs.eq_def] at h; dsimp only at h
    obtain ⟨h, h4⟩ := ands h
    obtain ⟨h, h3⟩ := ands h
    obtain ⟨h1, h2⟩ := ands h
    exact a_cons h1 ((okE0 e _ _ g _ h3).2 (nots h2)) (okEs0 es _ _ g as h4)
  | .conB e es, X, W, g, a :: as, h => by
    rw [chEs.eq_def] at h; dsimp only at h
    obtain ⟨h, h3⟩ := ands h
    obtain ⟨h1, h2⟩ := ands h
    exact a_conB h1 (okE0 e _ _ g _ h2).1 (okEs0 es _ _ g as h3)
  | .star e es, X, W, g, a :: as, h => by
    cases a <;> first | (rw [chEs.eq_def] at h; cases h; done) | skip
    rename_i p a
    rw [chEs.eq_def] at h; dsimp only at h
    obtain ⟨h, h3⟩ := ands h
    obtain ⟨h1, h2⟩ := ands h
    exact a_star g.ok.hK h1 (okE0 e _ _ g _ h2).1 (okEs0 es _ _ g as h3)
theorem okKs0 : ∀ (es : Es) (X : Cx) (W : WX) (g : Gd q X c z W P cl n) (kws : List Keyword), chKs n P X.N q X.env.scope.names es kws = true → KwZ X c z W P cl es kws (kwN kws)
  | .nil, X, W, g, [], _ => .nil
  | .nil, X, W, g, _ :: _, h => by rw [chKs.eq_def] at h; cases h
  | .cons _ _, X, W, g, [], h => by rw [chKs.eq_def] at h; cases h
  | .conB _ _, X, W, g, _, h => by rw [chKs.eq_def] at h; cases h
  | .star _ _, X, W, g, _, h => by rw [chKs.eq_def] at h; cases h
  | .cons e es, X, W, g, ⟨o, a, p⟩ :: kws, h => by
    cases o with
    | none => rw [chKs.eq_def] at h; cases h
    | some nm =>
      rw [chKs.eq_def] at h; dsimp only at h
      obtain ⟨h, h3⟩ := ands h
      obtain ⟨h1, h2⟩ := ands h
      exact .cons ((okE0 e _ _ g _ h2).2 (nots h1)) (okKs0 es _ _ g kws h3)
theorem okVs0 : ∀ (es : Es) (X : Cx) (W : WX) (g : Gd q X c z W P cl n) (es' : List PySem.Expr), chVs n P X.N q X.env.scope.names es es' = true → VsZ X c z W P cl es es'
  | .nil, X, W, g, [], _ => .nil
  | .nil, X, W, g, _ :: _, h => by rw [chVs.eq_def] at h; cases h
  | .cons _ _, X, W, g, [], h => by rw [chVs.eq_def] at h; cases h
  | .conB _ _, X, W, g, _, h => by rw [chVs.eq_def] at h; cases h
  | .star _ _, X, W, g, _, h => by rw [chVs.eq_def] at h; cases h
  | .cons e es, X, W, g, a :: as, h => by
    rw [chVs.eq_def] at h; dsimp only at h
    obtain ⟨h, h3⟩ := ands h
    obtain ⟨h1, h2⟩ := ands h
    exact .cons ((okE0 e _ _ g _ h2).2 (nots h1)) (okVs0 es _ _ g as h3)
theorem okJ0 : ∀ (it : It) (X : Cx) (W : WX) (g : Gd q X c z W P cl n) {tg : PySem.Expr} (e' : PySem.Expr), chJ n P X.N q X.env.scope.names it e' = true → PI X tg e' (tJ c z W (itE P cl it))
  | .seq e, X, W, g, tg, e', h => by
    rw [chJ.eq_def] at h; dsimp only at h
    obtain ⟨h1, h2⟩ := ands h
    exact j_seq g.ok ((okE0 e _ _ g _ h2).2 (nots h1))
  | .rng as, X, W, g, tg, e', h => by
    rw [chJ.eq_def] at h; dsimp only at h
    split at h
    · obtain ⟨h, h7⟩ := ands h
      obtain ⟨h, h6⟩ := ands h
      obtain ⟨h, h5⟩ := ands h
      obtain ⟨h, h4⟩ := ands h
      obtain ⟨h, h3⟩ := ands h
      obtain ⟨h1, h2⟩ := ands h
      have hx := eq_of_beq h2
      subst hx
      exact j_rng1 g.ok h3 h4 (eq_of_beq h5) h1 h6 (okEs0 as _ _ g _ h7)
    · obtain ⟨h, h8⟩ := ands h
      obtain ⟨h, h7⟩ := ands h
      obtain ⟨h, h6⟩ := ands h
      obtain ⟨h, h5⟩ := ands h
      obtain ⟨h, h4⟩ := ands h
      obtain ⟨h, h3⟩ := ands h
      obtain ⟨h1, h2⟩ := ands h
      have hx := eq_of_beq h2
      subst hx
      exact j_rng2 g.ok h3 h4 (eq_of_beq h5) h1 h6 h7 (okEs0 as _ _ g _ h8)
    · cases h
  | .lent _, _, _, _, _, _, h => by rw [chJ.eq_def] at h; cases h
  | .enum _, _, _, _, _, _, h => by rw [chJ.eq_def] at h; cases h
  | .zip _ _, _, _, _, _, _, h => by rw [chJ.eq_def] at h; cases h
  | .rev _, _, _, _, _, _, h => by rw [chJ.eq_def] at h; cases h
  | .items _, _, _, _, _, _, h => by rw [chJ.eq_def] at h; cases h
end
theorem okE (g : Gd q X c z W P cl n) (e : E) (e' : PySem.Expr) (h : chE n P X.N q X.env.scope.names e e' = true) : PE X e' (tB c z W (evE P cl e)) ∧ (isB e = false → PE X e' (tE c z W (evE P cl e))) := okE0 e X W g e' h
theorem okT (g : Gd q X c z W P cl n) (e : E) (e' : PySem.Expr) (h : chT n P X.N q X.env.scope.names e e' = true) : PT X e' (tTr c z W (evE P cl e)) := okT0 e X W g e' h
theorem okEs (g : Gd q X c z W P cl n) (es : Es) (es' : List PySem.Expr) (h : chEs n P X.N q X.env.scope.names es es' = true) : PA X es' (tF c z W (flg es) (evEs P cl es)) := okEs0 es X W g es' h
end
end Z


set_option Elab.async false
set_option linter.all false
set_option autoImplicit false
set_option maxRecDepth 100000
set_option maxHeartbeats 4000000
namespace Z
open PySem L2

/-- name = [.. for ..] on one line -/
def lcB (sc : Scp) (x : Str) (p : Pos) : PySem.Expr → Bool
  | .ListComp _ _ scope pos => (p.line == pos.line) && locB sc x && !(scope.names.any fun (n, k) => n == x && (k == .local || k == .cell))
  | _ => false
section
variable {q : Bool} {X : Cx} {c : Cz} {z : Ez} {W : WX} {B : Bs} {P : Prg} {cl : Call} {n : Nz}
theorem s_asgLc (g : Gd q X c z W P cl n) {i : Nat} {x : Str} {e : E} {e' : PySem.Expr} {pos p : Pos} (hi : X.N[i]? = some x) (hl : lcB X.env.scope.names x p e' = true) (h : chE n P X.N q X.env.scope.names e e' = true) :
    PS X (.Assign [.Name x p] e' pos) (tS c z W B (evS P cl (.asg i e))) := by
  cases e' <;> first | (cases hl; done) | skip
  rename_i elt gs scope lp
  obtain ⟨hl, l3⟩ := ands hl
  obtain ⟨l1, l2⟩ := ands hl
  have l2' : X.env.scope.names.lookup x = some .local := by simpa [locB] using l2
  cases e <;> first | (rw [chE.eq_def] at h; cases h; done) | skip
  case isi a ts =>
    rw [chE.eq_def] at h; dsimp only at h; split at h
    · rename_i hh; cases hh
    · cases h
  case exi a ts =>
    rw [chE.eq_def] at h; dsimp only at h; split at h
    · rename_i hh; cases hh
    · rename_i hh; cases hh
    · cases h
  case comp is it cond b =>
    rw [chE.eq_def] at h; dsimp only at h; split at h
    · rename_i elt' tg iter ifs scope' p' he
      cases he
      obtain ⟨h, h8⟩ := ands h
      obtain ⟨h, h7⟩ := ands h
      obtain ⟨h, h6⟩ := ands h
      obtain ⟨h, h5⟩ := ands h
      obtain ⟨h, h4⟩ := ands h
      obtain ⟨h, h3⟩ := ands h
      obtain ⟨h1, h2⟩ := ands h
      have bo := blkB_ok h2
      have hts : ∀ (s : Shared) (H : Hp) (C : Addr) (l : List (Str × Addr)) (fp : List Addr), PTs (X.blk s H scope (compEnvC scope l C X.env) fp) ifs (tTr c z noW (evE P cl cond)) := fun s H C l fp => by
        match ifs, h6 with
        | [], h6 =>
          rw [isT_ok h6]
          exact pts_yes
        | [e1], h6 => exact pts_one (okT0 cond _ _ (g.blk h1 bo.kind s H l C fp) e1 (by
          show chT _ _ _ _ (compEnvC scope l C _).scope.names cond e1 = true
          rw [relN_eq g.fk]; exact h6))
        | _ :: _ :: _, h6 => cases h6
      refine PS.imp (ps_setLc (g.ok.calm h1) g.ok.nd hi l2' (sw_true g.fk l2' l1 (nots l3)) (okJ0 it _ _ g iter h5) bo (g := gtI X.K is) (te := tE c z noW (evE P cl b)) (fun s H C l fp => ?_) hts (fun s H C l fp => ?_) (set_ok h4)) ?_
      · exact pg_I (g.blk h1 bo.kind s H l C fp).ok h1 (by
          show tgtB _ (compEnvC scope l C _).scope.names is tg = true
          rw [relN_eq g.fk]; exact h3)
      · exact (okE0 b _ _ (g.blk h1 bo.kind s H l C fp) elt (by
          show chE _ _ _ _ (compEnvC scope l C _).scope.names b elt = true
          rw [relN_eq g.fk]; exact h8)).2 (nots h7)
      · intro Dn τ H ⟨w, σ, M, s, h⟩
        rw [evS] at h
        rw [ownOf_is]
        exact comp_imp g.ok.hK (tE_st s h fun w1 M1 H1 d v k1 s1 r1 h1 => h1 w1 _ H1 (s1.setV r1))
    · cases h
end
end Z


set_option Elab.async false
set_option linter.all false
set_option autoImplicit false
set_option maxRecDepth 100000
set_option maxHeartbeats 4000000
namespace Z
open PySem L2
section
variable {q : Bool} {X : Cx} {c : Cz} {z : Ez} {W : WX} {B : Bs} {P : Prg} {cl : Call} {n : Nz}
def celB (sc : Scp) (x : Str) : Bool := sc.lookup x == some .cell
theorem sw_cell {e : PySem.Expr} {py : Pos} {y : Str} {l : Nat} {env : Env} (hy : env.scope.names.lookup y = some .cell) : swapsWith e (some (.Name y py)) l env = Pure.pure false := by
  have ky : env.kindOf y = some .cell := hy
  cases e <;> first | rfl | (unfold swapsWith; simp [ky]; rw [show (NameKind.cell == NameKind.local) = false from rfl, Bool.and_false, Bool.false_and, Bool.false_and])
theorem s_asgC {i : Nat} {x : Str} {e : E} {e' : PySem.Expr} {pos p : Pos} (ok : Ok q X c z W) (hi : X.N[i]? = some x) (hx : celB X.env.scope.names x = true) (hf : X.fn x = true) (he : PE X e' (tE c z W (evE P cl e))) :
    PS X (.Assign [.Name x p] e' pos) (tS c z W B (evS P cl (.asg i e))) := by
  have hx : X.env.scope.names.lookup x = some .cell := by simpa [celB] using hx
  refine PS.imp (ps_set ok.nd hi (.inr hx) he (sw_cell hx) (.inl hf)) fun Dn τ H ⟨w, σ, M, s, h⟩ => ?_
  rw [evS] at h
  exact tE_st s h fun w1 M1 H1 d v k1 s1 r1 h1 => h1 w1 _ H1 (s1.setV r1)
theorem s_oext {j : Nat} {x : Str} {e : E} {e' : PySem.Expr} {p apos pos pos2 : Pos} (hj : X.N[j]? = some x) (hv : Vis X.env.scope x) (g1 : (x == ("__debug__" : Str)) = false) (g2 : (x == ("__classdict__" : Str)) = false) (hp : plainB e' = true) (hl : (apos.endLine == pos.line) = true)
    (he : PE X e' (tE c z W (evE P cl e))) : PS X (.Expr (.Call (.Attribute (.Name x p) "extend" apos) [e'] [] pos) pos2) (tS c z W B (evS P cl (.oext j e))) := by
  have pa := pa_cons he pa_nil (plain_star hp)
  refine PS.imp (ps_expr (pe_bm PySem.F.plainAttrs_list PySem.F.slot_list_extend PySem.F.type_list_extend mt_extend (pe_var hj hv g1 g2) pa rfl (few_ok hp rfl rfl) hl (plain_star hp) rfl) rfl) fun Dn τ H ⟨w, σ, M, s, h⟩ => ?_
  rw [evS] at h
  split at h
  · rename_i ds hg
    have hσ : σ[j]? = some (.own (.lst ds)) := by
      unfold getO at hg
      split at hg
      · rename_i o e; cases hg; exact e
      · cases hg
    obtain ⟨pa, ob, e1, hob, ⟨xs, rfl, rs⟩, _⟩ := s.own j _ hσ
    refine ⟨.ref pa, e1, .inl ⟨rfl, xs, .inl (.inl hob)⟩, ?_⟩
    refine tE_st s h fun w1 M1 H1 v y k1 s1 r1 h1 => ?_
    obtain ⟨es, hes, h1⟩ := elim_S h1
    cases v <;> first | (cases hes; done) | skip
    rename_i es'
    cases hes
    obtain ⟨b, zs, rfl, hb, rz⟩ := r1
    obtain ⟨hl, h1⟩ := if_S h1
    obtain ⟨pa', ob, e2, hob, ⟨xs, rfl, rs⟩, _⟩ := s1.own j _ hσ
    rw [e1] at e2; cases e2
    have rr : MOr c w1 (.lst (xs ++ zs)) (.lst (ds ++ es)) := ⟨_, rfl, rs.app rz⟩
    exact ⟨pa, b, xs, zs, rfl, rfl, hob, s1.m.sub _ _ hb, by rw [rs.length, rz.length, LIM_eq]; exact hl, h1 w1 τ _ (s1.mut hσ e1 rr)⟩
  · exact h.elim
end
end Z


set_option Elab.async false
set_option linter.all false
set_option autoImplicit false
set_option maxRecDepth 100000
set_option maxHeartbeats 4000000
namespace Z
open PySem L2

/-! ### walks and statements, checked -/
def chI (n : Nz) (P : Prg) (N : List Str) (q : Bool) (sc : Scp) (tg : PySem.Expr) : It → PySem.Expr → Bool
  | .seq e, e' => notSet e' && !isB e && chE n P N q sc e e'
  | .lent i, e' => (match e' with
    | .Name x _ => nmB N sc i x
    | _ => false)
  | .rng as, e' => (match e' with
    | .Call (.Name x _) [a] [] _ => glB sc x && x == ("range" : Str) && noB as && noS as && cnt as == 1 && plainB a && chEs n P N q sc as [a]
    | .Call (.Name x _) [a, b] [] _ => glB sc x && x == ("range" : Str) && noB as && noS as && cnt as == 2 && plainB a && plainB b && chEs n P N q sc as [a, b]
    | _ => false)
  | .enum e, e' => (match tg, e' with
    | .Tuple _ _ _, .Call (.Name x _) [a] [] _ => glB sc x && x == ("enumerate" : Str) && noB (.cons e .nil) && plainB a && chEs n P N q sc (.cons e .nil) [a]
    | _, _ => false)
  | .zip _ _, _ => false
  | .rev _, _ => false
  | .items _, _ => false
mutual
def chS (n : Nz) (P : Prg) (N : List Str) (sc : Scp) : Bool → S → PySem.Stmt → Bool
  | q, .asg i e, st => (match st with
    | .Assign [.Name x p] e' _ => ixB N i x && (celB sc x || (locB sc x && (noLc e' || lcB sc x p e'))) && !isB e && chE n P N q sc e e'
    | _ => false)
  | q, .own i e, st => (match st with
    | .Assign [.Name x _] e' _ => ixB N i x && locB sc x && noLc e' && chN n P N q sc e e'
    | _ => false)
  | q, .unp is e, st => (match st with
    | .Assign [.Tuple es _ _] e' _ => q && tgsB N sc is es && noLc e' && noTup e' && !isB e && chE n P N q sc e e'
    | _ => false)
  | q, .par _ _ _ _, st => false
  | q, .sat o f e, st => (match st with
    | .Assign [.Attribute o' x _] e' _ => x == n.an f && noLc e' && !isB o && chE n P N q sc o o' && !isB e && chE n P N q sc e e'
    | _ => false)
  | q, .aat o f op e, st => (match st with
    | .AugAssign (.Attribute o' x _) o2 e' _ => x == n.an f && opB op o2 && !isB o && chE n P N q sc o o' && !isB e && chE n P N q sc e e'
    | _ => false)
  | q, .sit o i e, st => (match st with
    | .Assign [.Subscript o' i' _] e' _ => noSlc i' && noLc e' && !isB o && chE n P N q sc o o' && !isB i && chE n P N q sc i i' && !isB e && chE n P N q sc e e'
    | _ => false)
  | q, .osit j i e, st => (match st with
    | .Assign [.Subscript (.Name x _) i' _] e' _ => nmB N sc j x && noSlc i' && noLc e' && !isB i && chE n P N q sc i i' && !isB e && chE n P N q sc e e'
    | _ => false)
  | q, .aug _ _ _, st => false
  | q, .app o e, st => (match st with
    | .Expr (.Call (.Attribute o' x apos) [a] [] pos) _ => x == ("append" : Str) && baseB o' && apos.endLine == pos.line && plainB a && !isB o && chE n P N q sc o o' && !isB e && chE n P N q sc e a
    | _ => false)
  | q, .oapp j e, st => (match st with
    | .Expr (.Call (.Attribute (.Name y _) x apos) [a] [] pos) _ => x == ("append" : Str) && nmB N sc j y && apos.endLine == pos.line && plainB a && !isB e && chE n P N q sc e a
    | _ => false)
  | q, .ext _ _, st => false
  | q, .oext j e, st => (match st with
    | .Expr (.Call (.Attribute (.Name y _) x apos) [a] [] pos) _ => x == ("extend" : Str) && nmB N sc j y && apos.endLine == pos.line && plainB a && !isB e && chE n P N q sc e a
    | _ => false)
  | q, .ex e, st => (match st with
    | .Expr e' _ => noLc e' && chE n P N q sc e e'
    | _ => false)
  | q, .ife e s t, st => (match st with
    | .If e' s' t' _ => chT n P N q sc e e' && chSs n P N sc q s s' && chSs n P N sc q t t'
    | _ => false)
  | q, .for_ T it b, st => (match T, st with
    | .tp is, .For tg it' b' [] _ => q && tgtB N sc is tg && notSet it' && chI n P N q sc tg it it' && chSs n P N sc q b b'
    | _, _ => false)
  | q, .while_ e b, st => (match st with
    | .While e' b' [] _ => q && chT n P N q sc e e' && chSs n P N sc q b b'
    | _ => false)
  | q, .ret e, st => (match st with
    | .Return (some e') _ => !isB e && chE n P N q sc e e'
    | _ => false)
  | q, .retN, st => (match st with
    | .Return none _ => true
    | _ => false)
  | q, .raise_ k e, st => (match st with
    | .Raise (some (.Call (.Name x _) [e'] [] _)) none _ => q && glB sc x && n.rn k == some x && plainB e' && !isB e && chE n P N q sc e e'
    | _ => false)
  | q, .tryE b kc i h, st => (match st with
    | .Try body [.ExceptHandler (some (.Name x _)) (some nm) (b0 :: suite) _] [] [] _ => q && glB sc x && n.en kc == some x && ixB N i nm && locB sc nm && chSs n P N sc true b body && chSs n P N sc false h (b0 :: suite)
    | _ => false)
  | q, .stuck, st => true
  | q, .pass_, st => (match st with
    | .Pass _ => true
    | .Expr (.Constant (.str _) _ _) _ => true
    | _ => false)
  | q, .brk, st => (match st with
    | .Break _ => true
    | _ => false)
  | q, .cnt, st => (match st with
    | .Continue _ => true
    | _ => false)
  | q, .frz _, st => false
def chSs (n : Nz) (P : Prg) (N : List Str) (sc : Scp) : Bool → Ss → List PySem.Stmt → Bool
  | q, .nil, sts => sts.isEmpty
  | q, .cons s ss, sts => (match s with
    | .frz _ => chSs n P N sc q ss sts
    | s => (match sts with
      | [] => false
      | st :: sts => chS n P N sc q s st && chSs n P N sc q ss sts))
end
end Z


set_option Elab.async false
set_option linter.all false
set_option autoImplicit false
set_option maxRecDepth 100000
set_option maxHeartbeats 4000000
namespace Z
open PySem L2

section
variable {q : Bool} {X : Cx} {c : Cz} {z : Ez} {W : WX} {B : Bs} {P : Prg} {cl : Call} {n : Nz}
theorem FnZ.tr {f : Nat} {fa : Addr} (F : FnZ X c z P cl f fa) (pn : List (Addr × Obj)) (xe : Value → Shared → Prop) : FnZ (X.tr pn xe) c z P cl f fa := ⟨F.ex, F.kp⟩
theorem Lk.tr (g : Lk q X c z P cl n) (pn : List (Addr × Obj)) (xe : Value → Shared → Prop) : Lk q (X.tr pn xe) c z P cl n where
  an := g.an
  fn := fun f x h hq => let ⟨fa, h1, F⟩ := g.fn f x h hq; ⟨fa, h1, F.tr pn xe⟩
  hfn := fun f x h => let ⟨fa, h1, F⟩ := g.hfn f x h; ⟨fa, h1, ⟨F.ex, F.kp⟩⟩
  mkc := fun k x h => ⟨(g.mkc k x h).1, fun hq => let ⟨a, M, F⟩ := ((g.mkc k x h).2 hq).ex; ⟨⟨a, M, F.tr pn xe⟩⟩⟩
  mth := fun k m f h hq => let ⟨a, h1, h2, F⟩ := (g.mth k m f h hq).ex; ⟨⟨a, h1, h2, F.tr pn xe⟩, (g.mth k m f h hq).ne⟩
  prp := fun k m f h hq => let ⟨p, a, h1, h2, F⟩ := (g.prp k m f h hq).ex; ⟨p, a, h1, h2, F.tr pn xe⟩
  cls := ⟨g.cls.inj, g.cls.fld⟩
  isa := ⟨g.isa.ans, g.isa.cls⟩
  kw := fun k x m ks h hq => let ⟨fa, h1, F⟩ := g.kw k x m ks h hq; ⟨fa, h1, ⟨F.ex, F.kp⟩⟩
  gl := g.gl
  kd := fun k x h => ⟨(g.kd k x h).ex⟩
  en := g.en
  rn := fun k x h => ⟨(g.rn k x h).1, fun hq => ⟨((g.rn k x h).2 hq).ex⟩⟩
  exm := g.exm
  room := g.room
  ef := g.ef
theorem Gd.tr (g : Gd q X c z W P cl n) (hq : q = true) (nx : ∀ a k dd f, ¬ c.xa a k dd f) {pn : List (Addr × Obj)} {xe : Value → Shared → Prop} {W' : WX} (tk : L2N.Takes (X.tr pn xe) W') : Gd q (X.tr pn xe) c z W' P cl n :=
  ⟨⟨g.ok.hK, g.ok.calm, tk, g.ok.nd, g.ok.hu, g.ok.bn⟩, g.lk.tr pn xe, xa_none g.lk.ef nx, g.nx, g.fk, fun h => by rw [hq] at h; cases h⟩
theorem tyVal_at {y : Addr → Nat → Addr → Str → Prop} (t : Ty) : tyVal (c.at y) z t = tyVal c z t := by cases t <;> rfl
theorem Gd.suite (g : Gd q X c z W P cl n) {a dd : Addr} {k : Nat} {oe : Obj} {pn : List (Addr × Obj)} (K : ErrK X.K z k) (hz : L2N.Zn (.ref (z.ea k)) (some dd) oe) (hf : ∃ vs, oe.data = .fields vs) :
    Gd false (X.suite a ((a, oe) :: pn)) (c.at (xaOf z a k dd)) z (fun _ _ _ _ => False) P cl n where
  ok := ⟨g.ok.hK, (fun h => nomatch h), (fun u s' ⟨_, _, _, _, _, _, _, _, _, _, _, _, _, _, _, _, h⟩ => h.elim), g.ok.nd, g.ok.hu, g.ok.bn⟩
  lk := {
    an := g.lk.an
    fn := fun f x h hq => nomatch hq
    hfn := fun f x h => let ⟨fa, h1, F⟩ := g.lk.hfn f x h; ⟨fa, h1, let F' : FnZH (X.suite a ((a, oe) :: pn)) c z P cl f fa := ⟨let ⟨k, fd, ps, h1, h2, h3, h4⟩ := F.ex; ⟨k, fd, ps, h1, ⟨h2.dp, h2.un⟩, h3, h4⟩, F.kp⟩; F'.at _⟩
    mkc := fun k x h => ⟨(g.lk.mkc k x h).1, fun hq => nomatch hq⟩
    mth := fun k m f h hq => nomatch hq
    prp := fun k m f h hq => nomatch hq
    cls := ⟨g.lk.cls.inj, g.lk.cls.fld⟩
    isa := ⟨fun t t' b h => by rw [tyVal_at, tyVal_at]; exact g.lk.isa.ans t t' b h, g.lk.isa.cls⟩
    kw := fun k x m ks h hq => nomatch hq
    gl := fun k x h => let ⟨u, v, h1, h2, h3⟩ := g.lk.gl k x h; ⟨u, v, h1, h2, fun w => R_xa _ _ (h3 w)⟩
    kd := fun k x h => let ⟨p, h1, h2⟩ := (g.lk.kd k x h).ex; ⟨⟨p, h1, fun s d e => let ⟨v, h3, h4⟩ := h2 s d e; ⟨v, h3, fun w => R_xa _ _ (h4 w)⟩⟩⟩
    en := g.lk.en
    rn := fun k x h => ⟨(g.lk.rn k x h).1, fun hq => nomatch hq⟩
    exm := g.lk.exm
    room := fun hq => nomatch hq
    ef := g.lk.ef }
  xo := xa_suite g.lk.ef K hz hf
  nx := fun hq => nomatch hq
  fk := g.fk
  hot := fun _ => ⟨(a, oe), ⟨rfl, let ⟨vs, hv⟩ := hf; ⟨vs, hv, hz.2.2 vs hv⟩⟩, List.mem_cons_self⟩
/-- what a body's statements ask beyond -/
structure Gs (q : Bool) (X : Cx) (c : Cz) : Prop where
  hp : q = true → PassesOwn (model X.prog X.w) X.A X.env X.xe
  dx : q = true → DefX X
  nx : q = true → ∀ a k dd f, ¬ c.xa a k dd f
  fn : ∀ x, X.fn x = true
theorem okN (g : Gd q X c z W P cl n) (e : E) (e' : PySem.Expr) (h : chN n P X.N q X.env.scope.names e e' = true) : PE X e' (tN c z W (evE P cl e)) := by
  unfold chN at h
  have h0 := (ands h).1
  replace h := (ands h).2
  cases e <;> first | (cases h0; done) | skip
  case bin op a b =>
    rw [chE.eq_def] at h; dsimp only at h; split at h
    · obtain ⟨h, h3⟩ := ands h
      obtain ⟨h1, h2⟩ := ands h
      have e := opB_ok h1
      subst e
      exact n_bin (okE g a _ h2).1 (okE g b _ h3).1
    · cases h
  case slc a l r =>
    rw [chE.eq_def] at h; dsimp only at h; split at h
    · obtain ⟨h, h5⟩ := ands h
      obtain ⟨h, h4⟩ := ands h
      obtain ⟨h, h3⟩ := ands h
      obtain ⟨h1, h2⟩ := ands h
      exact n_slc g.ok (okE g a _ h1).1 ((okE g l _ h3).2 (nots h2)) ((okE g r _ h5).2 (nots h4))
    · cases h
  case slL a l =>
    rw [chE.eq_def] at h; dsimp only at h; split at h
    · obtain ⟨h, h3⟩ := ands h
      obtain ⟨h1, h2⟩ := ands h
      exact n_slL g.ok (okE g a _ h1).1 ((okE g l _ h3).2 (nots h2))
    · cases h
  case slH a l =>
    rw [chE.eq_def] at h; dsimp only at h; split at h
    · obtain ⟨h, h3⟩ := ands h
      obtain ⟨h1, h2⟩ := ands h
      exact n_slH g.ok (okE g a _ h1).1 ((okE g l _ h3).2 (nots h2))
    · cases h
  case slA a =>
    rw [chE.eq_def] at h; dsimp only at h; split at h
    · exact n_slA g.ok (okE g a _ h).1
    · cases h
  case lst as =>
    rw [chE.eq_def] at h; dsimp only at h; split at h
    · obtain ⟨h1, h2⟩ := ands h
      exact n_lst h1 (okEs g as _ h2)
    · cases h
  case bi b as =>
    rw [chE.eq_def] at h; dsimp only at h; split at h
    · obtain ⟨h, h6⟩ := ands h
      obtain ⟨h, h5⟩ := ands h
      obtain ⟨h, h4⟩ := ands h
      obtain ⟨h, h3⟩ := ands h
      obtain ⟨h1, h2⟩ := ands h
      have hx := eq_of_beq h3
      subst hx
      cases b <;> first | (cases h0; done) | skip
      exact n_list g.ok h2 h4 h5 (okEs g as _ h6)
    · cases h
theorem okI (g : Gd q X c z W P cl n) {tg : PySem.Expr} : ∀ (it : It) (e' : PySem.Expr), chI n P X.N q X.env.scope.names tg it e' = true → PI X tg e' (tI c z W B (itE P cl it))
  | .seq e, e', h => by
    unfold chI at h; dsimp only at h
    obtain ⟨h, h3⟩ := ands h
    obtain ⟨h1, h2⟩ := ands h
    exact i_seq g.ok ((okE g e _ h3).2 (nots h2))
  | .lent i, e', h => by
    unfold chI at h; dsimp only at h
    split at h
    · obtain ⟨h1, h2, h3, h4⟩ := nmB_ok h
      exact i_lent g.ok (ixB_ok h1) (visB_ok h2) h3 h4
    · cases h
  | .rng as, e', h => by
    unfold chI at h; dsimp only at h
    split at h
    · obtain ⟨h, h7⟩ := ands h
      obtain ⟨h, h6⟩ := ands h
      obtain ⟨h, h5⟩ := ands h
      obtain ⟨h, h4⟩ := ands h
      obtain ⟨h, h3⟩ := ands h
      obtain ⟨h1, h2⟩ := ands h
      have hx := eq_of_beq h2
      subst hx
      exact i_rng1 g.ok h3 h4 (eq_of_beq h5) h1 h6 (okEs g as _ h7)
    · obtain ⟨h, h8⟩ := ands h
      obtain ⟨h, h7⟩ := ands h
      obtain ⟨h, h6⟩ := ands h
      obtain ⟨h, h5⟩ := ands h
      obtain ⟨h, h4⟩ := ands h
      obtain ⟨h, h3⟩ := ands h
      obtain ⟨h1, h2⟩ := ands h
      have hx := eq_of_beq h2
      subst hx
      exact i_rng2 g.ok h3 h4 (eq_of_beq h5) h1 h6 h7 (okEs g as _ h8)
    · cases h
  | .enum e, e', h => by
    unfold chI at h; dsimp only at h
    split at h
    · obtain ⟨h, h5⟩ := ands h
      obtain ⟨h, h4⟩ := ands h
      obtain ⟨h, h3⟩ := ands h
      obtain ⟨h1, h2⟩ := ands h
      have hx := eq_of_beq h2
      subst hx
      exact i_enum g.ok h1 h4 h3 (okEs g _ _ h5)
    · cases h
  | .zip _ _, _, h => by cases h
  | .rev _, _, h => by cases h
  | .items _, _, h => by cases h
end
end Z


set_option Elab.async false
set_option linter.all false
set_option autoImplicit false
set_option maxRecDepth 100000
set_option maxHeartbeats 4000000
namespace Z
open PySem L2

section
variable {z : Ez} {P : Prg} {cl : Call} {n : Nz}
mutual
theorem okSt : ∀ (s : S) {q : Bool} {X : Cx} {c : Cz} {W : WX} {B : Bs} (g : Gd q X c z W P cl n) (d : Gs q X c) (st : PySem.Stmt), chS n P X.N X.env.scope.names q s st = true → PS X st (tS c z W B (evS P cl s))
  | .asg i e, q, X, c, W, B, g, d, st, h => by
    rw [chS.eq_def] at h; dsimp only at h; split at h
    · rename_i x p e' pos
      obtain ⟨h, h5⟩ := ands h
      obtain ⟨h, h4⟩ := ands h
      obtain ⟨h1, h2⟩ := ands h
      rcases Bool.or_eq_true_iff.mp h2 with h2 | h2
      · exact s_asgC g.ok (ixB_ok h1) h2 (d.fn x) ((okE g e _ h5).2 (nots h4))
      obtain ⟨h2, h3⟩ := ands h2
      rcases Bool.or_eq_true_iff.mp h3 with h3 | h3
      · exact s_asg g.ok (ixB_ok h1) h2 h3 ((okE g e _ h5).2 (nots h4))
      · exact s_asgLc g (ixB_ok h1) h3 h5
    · cases h
  | .own i e, q, X, c, W, B, g, d, st, h => by
    rw [chS.eq_def] at h; dsimp only at h; split at h
    · obtain ⟨h, h4⟩ := ands h
      obtain ⟨h, h3⟩ := ands h
      obtain ⟨h1, h2⟩ := ands h
      exact s_own g.ok (ixB_ok h1) h2 h3 (okN g e _ h4)
    · cases h
  | .unp is e, q, X, c, W, B, g, d, st, h => by
    rw [chS.eq_def] at h; dsimp only at h; split at h
    · obtain ⟨h, h6⟩ := ands h
      obtain ⟨h, h5⟩ := ands h
      obtain ⟨h, h4⟩ := ands h
      obtain ⟨h, h3⟩ := ands h
      obtain ⟨h1, h2⟩ := ands h
      exact s_unp g.ok h1 h2 h3 h4 ((okE g e _ h6).2 (nots h5))
    · cases h
  | .par _ _ _ _, q, X, c, W, B, g, d, st, h => by rw [chS.eq_def] at h; cases h
  | .sat o f e, q, X, c, W, B, g, d, st, h => by
    rw [chS.eq_def] at h; dsimp only at h; split at h
    · obtain ⟨h, h6⟩ := ands h
      obtain ⟨h, h5⟩ := ands h
      obtain ⟨h, h4⟩ := ands h
      obtain ⟨h, h3⟩ := ands h
      obtain ⟨h1, h2⟩ := ands h
      have hx := eq_of_beq h1
      subst hx
      rw [g.lk.an]
      exact s_sat g.lk.cls h2 ((okE g o _ h4).2 (nots h3)) ((okE g e _ h6).2 (nots h5))
    · cases h
  | .aat o f op e, q, X, c, W, B, g, d, st, h => by
    rw [chS.eq_def] at h; dsimp only at h; split at h
    · obtain ⟨h, h6⟩ := ands h
      obtain ⟨h, h5⟩ := ands h
      obtain ⟨h, h4⟩ := ands h
      obtain ⟨h, h3⟩ := ands h
      obtain ⟨h1, h2⟩ := ands h
      have hx := eq_of_beq h1
      subst hx
      have e2 := opB_ok h2
      subst e2
      rw [g.lk.an]
      exact s_aat g.lk.cls ((okE g o _ h4).2 (nots h3)) ((okE g e _ h6).2 (nots h5))
    · cases h
  | .sit o i e, q, X, c, W, B, g, d, st, h => by
    rw [chS.eq_def] at h; dsimp only at h; split at h
    · obtain ⟨h, h9⟩ := ands h
      obtain ⟨h, h8⟩ := ands h
      obtain ⟨h, h7⟩ := ands h
      obtain ⟨h, h6⟩ := ands h
      obtain ⟨h, h5⟩ := ands h
      obtain ⟨h, h4⟩ := ands h
      obtain ⟨h1, h2⟩ := ands h
      exact s_sit g.ok h1 h2 ((okE g o _ h5).2 (nots h4)) ((okE g i _ h7).2 (nots h6)) ((okE g e _ h9).2 (nots h8))
    · cases h
  | .osit j i e, q, X, c, W, B, g, d, st, h => by
    rw [chS.eq_def] at h; dsimp only at h; split at h
    · obtain ⟨h, h8⟩ := ands h
      obtain ⟨h, h7⟩ := ands h
      obtain ⟨h, h6⟩ := ands h
      obtain ⟨h, h5⟩ := ands h
      obtain ⟨h, h4⟩ := ands h
      obtain ⟨h1, h2⟩ := ands h
      obtain ⟨k1, k2, k3, k4⟩ := nmB_ok h1
      exact s_osit g.ok (ixB_ok k1) (visB_ok k2) k3 k4 h2 h4 ((okE g i _ h6).2 (nots h5)) ((okE g e _ h8).2 (nots h7))
    · cases h
  | .aug _ _ _, q, X, c, W, B, g, d, st, h => by rw [chS.eq_def] at h; cases h
  | .app o e, q, X, c, W, B, g, d, st, h => by
    rw [chS.eq_def] at h; dsimp only at h; split at h
    · obtain ⟨h, h8⟩ := ands h
      obtain ⟨h, h7⟩ := ands h
      obtain ⟨h, h6⟩ := ands h
      obtain ⟨h, h5⟩ := ands h
      obtain ⟨h, h4⟩ := ands h
      obtain ⟨h, h3⟩ := ands h
      obtain ⟨h1, h2⟩ := ands h
      have hx := eq_of_beq h1
      subst hx
      exact s_app h2 h4 h3 ((okE g o _ h6).2 (nots h5)) ((okE g e _ h8).2 (nots h7))
    · cases h
  | .oapp j e, q, X, c, W, B, g, d, st, h => by
    rw [chS.eq_def] at h; dsimp only at h; split at h
    · obtain ⟨h, h6⟩ := ands h
      obtain ⟨h, h5⟩ := ands h
      obtain ⟨h, h4⟩ := ands h
      obtain ⟨h, h3⟩ := ands h
      obtain ⟨h1, h2⟩ := ands h
      have hx := eq_of_beq h1
      subst hx
      obtain ⟨k1, k2, k3, k4⟩ := nmB_ok h2
      exact s_oapp (ixB_ok k1) (visB_ok k2) k3 k4 h4 h3 ((okE g e _ h6).2 (nots h5))
    · cases h
  | .ext _ _, q, X, c, W, B, g, d, st, h => by rw [chS.eq_def] at h; cases h
  | .oext j e, q, X, c, W, B, g, d, st, h => by
    rw [chS.eq_def] at h; dsimp only at h; split at h
    · obtain ⟨h, h6⟩ := ands h
      obtain ⟨h, h5⟩ := ands h
      obtain ⟨h, h4⟩ := ands h
      obtain ⟨h, h3⟩ := ands h
      obtain ⟨h1, h2⟩ := ands h
      have hx := eq_of_beq h1
      subst hx
      obtain ⟨k1, k2, k3, k4⟩ := nmB_ok h2
      exact s_oext (ixB_ok k1) (visB_ok k2) k3 k4 h4 h3 ((okE g e _ h6).2 (nots h5))
    · cases h
  | .ex e, q, X, c, W, B, g, d, st, h => by
    rw [chS.eq_def] at h; dsimp only at h; split at h
    · obtain ⟨h1, h2⟩ := ands h
      exact s_ex h1 (okE g e _ h2).1
    · cases h
  | .ife e s t, q, X, c, W, B, g, d, st, h => by
    rw [chS.eq_def] at h; dsimp only at h; split at h
    · obtain ⟨h, h3⟩ := ands h
      obtain ⟨h1, h2⟩ := ands h
      exact s_if (okT g e _ h1) (okSs s g d _ h2) (okSs t g d _ h3)
    · cases h
  | .for_ T it b, q, X, c, W, B, g, d, st, h => by
    rw [chS.eq_def] at h; dsimp only at h; split at h
    · obtain ⟨h, h5⟩ := ands h
      obtain ⟨h, h4⟩ := ands h
      obtain ⟨h, h3⟩ := ands h
      obtain ⟨h1, h2⟩ := ands h
      exact s_for g.ok h1 rfl (d.hp h1) h2 (okI g it _ h4) (fun B' => okSs b g d _ h5) (set_ok h3)
    · cases h
  | .while_ e b, q, X, c, W, B, g, d, st, h => by
    rw [chS.eq_def] at h; dsimp only at h; split at h
    · obtain ⟨h, h3⟩ := ands h
      obtain ⟨h1, h2⟩ := ands h
      exact s_while (d.hp h1) (okT g e _ h2) (okSs b g d _ h3)
    · cases h
  | .ret e, q, X, c, W, B, g, d, st, h => by
    rw [chS.eq_def] at h; dsimp only at h; split at h
    · obtain ⟨h1, h2⟩ := ands h
      exact s_ret ((okE g e _ h2).2 (nots h1))
    · cases h
  | .retN, q, X, c, W, B, g, d, st, h => by
    rw [chS.eq_def] at h; dsimp only at h; split at h
    · exact s_retN
    · cases h
  | .raise_ k e, q, X, c, W, B, g, d, st, h => by
    rw [chS.eq_def] at h; dsimp only at h; split at h
    · obtain ⟨h, h6⟩ := ands h
      obtain ⟨h, h5⟩ := ands h
      obtain ⟨h, h4⟩ := ands h
      obtain ⟨h, h3⟩ := ands h
      obtain ⟨h1, h2⟩ := ands h
      obtain ⟨hm, E⟩ := g.lk.rn _ _ (somes (y := Str.empty) h3)
      obtain ⟨kk, hr⟩ := g.lk.room h1
      exact s_raise g.ok h1 (E h1) hr hm h2 h4 ((okE g e _ h6).2 (nots h5))
    · cases h
  | .tryE b kc i hd, q, X, c, W, B, g, d, st, h => by
    rw [chS.eq_def] at h; dsimp only at h; split at h
    · rename_i body x p1 nm b0 suite p2 p3
      obtain ⟨h, h7⟩ := ands h
      obtain ⟨h, h6⟩ := ands h
      obtain ⟨h, h5⟩ := ands h
      obtain ⟨h, h4⟩ := ands h
      obtain ⟨h, h3⟩ := ands h
      obtain ⟨h1, h2⟩ := ands h
      subst h1
      have hm := g.lk.en _ _ (somes (y := Str.empty) h3)
      refine s_try g.ok (d.dx rfl) (d.nx rfl) (ixB_ok h4) h5 hm h2 (fun k t e => g.lk.exm k kc t e) (fun W' pn xe tk hp => ?_) (fun a dd k oe pn K hz hf => ?_)
      · exact okSs b (g.tr rfl (d.nx rfl) tk) ⟨fun _ => hp, fun _ => ⟨(d.dx rfl).hs, (d.dx rfl).hf⟩, d.nx, d.fn⟩ _ h6
      · exact okSs hd (g.suite K hz hf) ⟨(fun h => nomatch h), (fun h => nomatch h), (fun h => nomatch h), d.fn⟩ _ h7
    · cases h
  | .stuck, q, X, c, W, B, g, d, st, h => ⟨fun pins s τ H Dn I ⟨w, σ, M, _, h⟩ => by rw [evS] at h; exact h.elim⟩
  | .pass_, q, X, c, W, B, g, d, st, h => by
    rw [chS.eq_def] at h; dsimp only at h; split at h
    · exact s_pass
    · exact s_doc
    · cases h
  | .brk, q, X, c, W, B, g, d, st, h => by
    rw [chS.eq_def] at h; dsimp only at h; split at h
    · exact s_brk
    · cases h
  | .cnt, q, X, c, W, B, g, d, st, h => by
    rw [chS.eq_def] at h; dsimp only at h; split at h
    · exact s_cnt
    · cases h
  | .frz _, q, X, c, W, B, g, d, st, h => by rw [chS.eq_def] at h; cases h
theorem okSs : ∀ (ss : Ss) {q : Bool} {X : Cx} {c : Cz} {W : WX} {B : Bs} (g : Gd q X c z W P cl n) (d : Gs q X c) (sts : List PySem.Stmt), chSs n P X.N X.env.scope.names q ss sts = true → PSs X sts (tS c z W B (evSs P cl ss))
  | .nil, q, X, c, W, B, g, d, sts, h => by
    rw [chSs.eq_def] at h; dsimp only at h
    cases sts with
    | nil => exact ss_nil
    | cons a b => cases h
  | .cons s ss, q, X, c, W, B, g, d, sts, h => by
    rw [chSs.eq_def] at h; dsimp only at h
    split at h
    · exact s_frz (okSs ss g d _ h)
    · split at h
      · cases h
      · obtain ⟨h1, h2⟩ := ands h
        exact ss_cons (okSt s g d _ h1) (okSs ss g d _ h2)
end
end
end Z


set_option Elab.async false
set_option linter.all false
set_option autoImplicit false
set_option maxRecDepth 100000
set_option maxHeartbeats 4000000
namespace Z
open PySem L2

/-! ### binding plain parameters -/
theorem zip_some : ∀ {ns : List Str} {us : List Value} {n : Str}, us.length = ns.length → n ∈ ns → ((ns.zip us).lookup n).isSome = true
  | [], _, _, _, h => by cases h
  | m :: ns, [], _, h, _ => by simp at h
  | m :: ns, u :: us, n, h, hn => by
    rw [List.zip_cons_cons, List.lookup_cons]
    cases e : n == m with
    | true => rfl
    | false =>
      rcases List.mem_cons.mp hn with rfl | hn
      · simp at e
      · exact zip_some (by simpa using h) hn
theorem zip_map : ∀ {ns : List Str} {us : List Value} (l : List (Str × Value)), us.length = ns.length → ns.Nodup → (∀ n ∈ ns, l.lookup n = none) → ns.filterMap (fun n => ((l ++ ns.zip us).lookup n).map (n, ·)) = ns.zip us := by
  intro ns
  induction ns with
  | nil => intro us l _ _ _; rfl
  | cons m ns ih =>
    intro us l h nd hl
    cases us with
    | nil => simp at h
    | cons u us =>
      obtain ⟨nd1, nd2⟩ := List.nodup_cons.mp nd
      rw [List.zip_cons_cons, List.filterMap_cons]
      have e1 : (l ++ (m, u) :: ns.zip us).lookup m = some u := by
        rw [List.lookup_append, hl m (List.mem_cons_self ..)]
        simp
      rw [e1]
      show (m, u) :: _ = (m, u) :: _
      congr 1
      have := ih (us := us) (l ++ [(m, u)]) (by simpa using h) nd2 (fun n hn => by
        rw [List.lookup_append, hl n (List.mem_cons_of_mem _ hn)]
        have : (n == m) = false := by
          rw [beq_eq_false_iff_ne]
          rintro rfl
          exact nd1 hn
        simp [List.lookup_cons, this])
      rw [List.append_assoc] at this
      exact this
def plainArgs (p : Arguments) : Bool := p.posonlyargs.isEmpty && p.vararg.isNone && p.kwonlyargs.isEmpty && p.kwarg.isNone && decide ((p.args.map (·.arg)).Nodup)
theorem bind_plain {x qual : Str} {params : Arguments} {body : List PySem.Stmt} {scope : Scope} {kV doc pm : Value} {an : Option Addr} {cdv ct : Value} {us : List Value} (hp : plainArgs params = true) (hl : us.length = (params.args.map (·.arg)).length) :
    bindArgs (PySem.W.fnOf x qual params body scope .none kV doc pm an cdv ct) ⟨us, []⟩ = Pure.pure ((params.args.map (·.arg)).zip us) := by
  obtain ⟨po, as, va, ko, kd, kw, df⟩ := params
  simp only [plainArgs, Bool.and_eq_true, List.isEmpty_iff, Option.isNone_iff_eq_none, decide_eq_true_eq] at hp
  obtain ⟨⟨⟨⟨rfl, rfl⟩, rfl⟩, rfl⟩, nd⟩ := hp
  have hm : ((as.map (·.arg)).filter fun n => (((as.map (·.arg)).zip us).lookup n).isNone) = [] := by
    rw [List.filter_eq_nil_iff]
    intro n hn
    have := zip_some hl hn
    cases e : ((as.map (·.arg)).zip us).lookup n with
    | none => rw [e] at this; cases this
    | some v => simp
  have hz := zip_map (us := us) [] hl nd (fun _ _ => rfl)
  rw [List.nil_append] at hz
  unfold bindArgs
  have hs : seqItems? Value.none = Pure.pure none := rfl
  have ht : List.take as.length (as.map (·.arg)) = as.map (·.arg) := List.take_of_length_le (by simp)
  simp only [PySem.W.fnOf, hs, pure_bind, List.map_nil, List.nil_append, List.append_nil, List.forIn_nil, Option.getD_none, List.length_nil, Nat.sub_zero, List.zip_nil_right, Option.isNone_none, hl, List.length_map, List.drop_nil, ht, hm, List.isEmpty_nil, Bool.not_true, Bool.false_eq_true, if_false, gt_iff_lt, Nat.lt_irrefl, decide_false, Bool.false_and, hz]
end Z


set_option Elab.async false
set_option linter.all false
set_option autoImplicit false
set_option maxRecDepth 100000
set_option maxHeartbeats 4000000
namespace Z
open PySem L2

/-! ### the defs of a text -/
structure Df where
  d : He.DefD
  ss : Ss
  N : List Str
  ps : List Str
def startZ : List Bool → Nat → List D → List SV
  | fl, n, d :: ds => (if fl.headD false then SV.brw d else SV.val d) :: startZ fl.tail (n - 1) ds
  | _, n, [] => List.replicate n .non
def endZ : SRes → Res
  | .rt d M => .ok d M
  | .nx _ M => .ok .non M
  | .exc k d _ M => .exc k d M
  | _ => .bad
/-- the text's defs, so many calls deep -/
def callN (P : Prg) (T : Nat → Option Df) : Nat → Call
  | 0, _, _, _ => .bad
  | k + 1, f, ds, M => (T f).elim .bad fun D => endZ (evSs P (callN P T k) D.ss (startZ (P.brw f) D.N.length ds) M)
theorem start_len : ∀ (fl : List Bool) (ds : List D) (n : Nat), ds.length ≤ n → (startZ fl n ds).length = n
  | _, [], n, _ => by simp [startZ]
  | fl, d :: ds, n, h => by
    rw [startZ, List.length_cons, start_len fl.tail ds (n - 1) (by simp only [List.length_cons] at h; omega)]
    simp only [List.length_cons] at h; omega
theorem start_at {c : Cz} {w : Wd} {M : Sto} {H : Hp} : ∀ {fl : List Bool} {ds : List D} {vs : List V} {n i : Nat} {sv : SV}, Rf c w M H fl ds vs → (startZ fl n ds)[i]? = some sv →
    sv = .non ∨ ∃ d v, vs[i]? = some v ∧ ((sv = .val d ∧ R c w d v) ∨ (sv = .brw d ∧ RB c w M H d v))
  | fl, [], vs, n, i, sv, r, h => by
    rw [startZ] at h
    have := List.mem_of_getElem? h
    exact .inl (List.eq_of_mem_replicate this)
  | fl, d :: ds, _, n, 0, sv, ⟨x, xs, rfl, r, q⟩, h => by
    rw [startZ] at h
    simp only [List.getElem?_cons_zero, Option.some.injEq] at h
    refine .inr ⟨d, x, rfl, ?_⟩
    cases hb : fl.headD false with
    | true => rw [hb, if_pos rfl] at h; exact .inr ⟨h.symm, r.elim .inl (·.2)⟩
    | false => rw [hb, if_neg (by simp)] at h; exact .inl ⟨h.symm, r.elim id (fun z => by rw [hb] at z; exact absurd z.1 (by simp))⟩
  | fl, d :: ds, _, n, i + 1, sv, ⟨x, xs, rfl, r, q⟩, h => by
    rw [startZ, List.getElem?_cons_succ] at h
    exact start_at (i := i) q h
/-- what the top says, behind its run -/
structure Hd (prog : Program) (w : World) (K : PySem.W.Frag) (mg : Str → Option Value) (base : Heap) (c : Cz) (z : Ez) (P : Prg) (n : Nz) (T : Nat → Option Df) (fa : Nat → Addr) : Prop where
  an : n.an = c.an
  hK : c.K = K
  nx : ∀ a k dd f, ¬ c.xa a k dd f
  ef : ∀ k, z.ef k = c.an (P.exf k)
  bn : ∀ x ∈ biNames, mg x = none
  df : ∀ f D, T f = some D → ∃ fd, FunD K D.d.name D.d.qual D.d.params D.d.body D.d.scope (D.d.dvs K) (D.d.kws K) (fa f) fd ∧ ∀ n, n + (P.dfl f n).length = P.ar f → ∃ (ds : List Value) (dvs : List V), Binds K fd D.ps ds ∧ Vals dvs ds ∧ ∀ w : Wd, Rs c w (P.dfl f n) dvs
  st : ∀ f D, T f = some D → FnScope D.N D.ps D.d.scope ∧ D.ps.length = P.ar f ∧ D.ps.length ≤ D.N.length ∧ chSs n P D.N D.d.scope.names (!P.hot f) D.ss D.d.body = true
  hfn : ∀ f x, n.hf f = some x → mg x = some (.ref (fa f)) ∧ (∃ D, T f = some D) ∧ P.hot f = true
  nod : ∀ f, P.hot f = true → ∀ n, P.dfl f n = []
  cold : (∀ f x, n.fn f = some x → P.hot f = false) ∧ (∀ k x, n.cn k = some x → P.hot (P.ini k) = false) ∧ (∀ k m f, P.mth k m = some f → P.hot f = false) ∧ (∀ k q, n.kw k = some q → P.hot (P.kq k).1 = false)
  fn : ∀ f x, n.fn f = some x → mg x = some (.ref (fa f)) ∧ ∃ D, T f = some D
  mkc : ∀ k x, n.cn k = some x → mg x = some (.ref (c.ca k)) ∧ Mk K (c.ca k) (fa (P.ini k)) ∧ ∃ D, T (P.ini k) = some D
  mth : ∀ k m f, P.mth k m = some f → Cls K (c.ca k) ∧ Meth K (c.ca k) (c.an m) (fa f) ∧ (∃ D, T f = some D) ∧ (c.an m = ("__eq__" : Str) → NeK K (c.ca k))
  prp : ∀ k m f, P.prp k m = some f → Cls K (c.ca k) ∧ (∃ p, PropOf K (c.ca k) (c.an m) p (fa f)) ∧ (∃ D, T f = some D) ∧ P.hot f = false
  inj : ∀ a b, c.an a = c.an b → a = b
  fld : ∀ k f, P.fld k f = true → Cls K (c.ca k) ∧ NoAttr K (c.ca k) (c.an f)
  ans : ∀ t t' b, P.isa t t' = some b → PySem.W.kitOne K (tyVal c z t) (tyVal c z t') = some b
  isc : ∀ k t' b, P.isa (.cls k) t' = some b → IsC K (c.ca k)
  kw : ∀ k x m ks, n.kw k = some (x, m, ks) → mg x = some (.ref (fa (P.kq k).1)) ∧ ∃ D, T (P.kq k).1 = some D ∧ ∀ fd, FunD K D.d.name D.d.qual D.d.params D.d.body D.d.scope (D.d.dvs K) (D.d.kws K) (fa (P.kq k).1) fd →
    ∃ (g : List Value → List Value → List Value) (gV : List V → List V → List V) (mv : List V), KBn K fd D.ps m ks g gV ∧ (∀ vs zs, gV vs zs = vs ++ (mv ++ zs)) ∧ ∀ w : Wd, Rs c w (P.kq k).2 mv
  gl : ∀ g x, n.gn g = some x → ∃ (u : Value) (v : V), mg x = some u ∧ RelV v u ∧ ∀ w : Wd, R c w (P.gl g) v
  kd : ∀ g x, n.kdn g = some x → ∃ p, mg x = some (.ref p) ∧ ∀ s d, (P.kd g).lookup s = some d → ∃ v, KDct K w p (sS s) v ∧ ∀ w : Wd, R c w d v
  en : ∀ k x, n.en k = some x → mg x = some (.ref (z.ea k))
  rn : ∀ k x, n.rn k = some x → mg x = some (.ref (z.ea k)) ∧ ∃ fI, PySem.ErrX.ErrTxt prog K mg (z.ef k) (z.ea k) fI
  exm : ∀ k kc t, P.exm k kc = some t → PySem.W.exmOne K (.ref (z.ea k)) (.ref (z.ea kc)) = some t ∧ ErrK K z k
section
variable {prog : Program} {w : World} {K : PySem.W.Frag} {mg : Str → Option Value} {base : Heap} {c : Cz} {z : Ez} {P : Prg} {n : Nz} {T : Nat → Option Df} {fa : Nat → Addr}
/-- every def keeps its promise, so many calls deep -/
def AllOk (prog : Program) (w : World) (K : PySem.W.Frag) (mg : Str → Option Value) (base : Heap) (c : Cz) (z : Ez) (P : Prg) (T : Nat → Option Df) (fa : Nat → Addr) (k : Nat) : Prop :=
  ∀ f D fd, T f = some D → FunD K D.d.name D.d.qual D.d.params D.d.body D.d.scope (D.d.dvs K) (D.d.kws K) (fa f) fd →
    (P.hot f = false → FnOk prog w K mg base (L2N.CX prog w) (2 * k) (fa f) fd D.ps (spOf c z P (callN P T k) f)) ∧ (P.hot f = true → L2H.FnH prog w K mg base (L2N.CX prog w) (2 * k) (fa f) fd D.ps (spOf c z P (callN P T k) f))
theorem fnz {X : Cx} {k : Nat} (h : Hd X.prog X.w X.K X.mg X.base c z P n T fa) (A : AllOk X.prog X.w X.K X.mg X.base c z P T fa k) (hr : Room (2 * k + 1) X.A) {f : Nat} {D : Df} (hT : T f = some D) (hh : P.hot f = false) : FnZ X c z P (callN P T k) f (fa f) := by
  obtain ⟨fd, F, hb⟩ := h.df f D hT
  obtain ⟨S, h1, _, _⟩ := h.st f D hT
  exact ⟨⟨2 * k, fd, D.ps, (A f D fd hT F).1 hh, hr, h1, hb⟩, F.kp⟩
theorem fnzh {X : Cx} {k : Nat} (h : Hd X.prog X.w X.K X.mg X.base c z P n T fa) (A : AllOk X.prog X.w X.K X.mg X.base c z P T fa k) (hr : L2H.RoomH (2 * k + 1) X.A) {f : Nat} {D : Df} (hT : T f = some D) (hh : P.hot f = true) : FnZH X c z P (callN P T k) f (fa f) := by
  obtain ⟨fd, F, hb⟩ := h.df f D hT
  obtain ⟨S, h1, _, _⟩ := h.st f D hT
  refine ⟨⟨2 * k, fd, D.ps, (A f D fd hT F).2 hh, hr, h1, fun _ => ?_⟩, F.kp⟩
  obtain ⟨ds, dvs, hB, hV, hR⟩ := hb D.ps.length (by rw [h.nod f hh, h1]; rfl)
  rw [h.nod f hh] at hR
  have := hR ⟨fun _ => none, fun _ => 0, 0⟩
  cases (show dvs = [] from this)
  cases hV
  exact hB
theorem lk_h {X : Cx} {k : Nat} (h : Hd X.prog X.w X.K X.mg X.base c z P n T fa) (A : AllOk X.prog X.w X.K X.mg X.base c z P T fa k) (hr : L2H.RoomH (2 * k + 1) X.A) : Lk false X c z P (callN P T k) n where
  an := h.an
  fn := fun f x e hq => nomatch hq
  hfn := fun f x e => let ⟨h1, ⟨D, h2⟩, h3⟩ := h.hfn f x e; ⟨fa f, h1, fnzh h A hr h2 h3⟩
  mkc := fun k x e => ⟨(h.mkc k x e).1, fun hq => nomatch hq⟩
  mth := fun k m f e hq => nomatch hq
  prp := fun k m f e hq => nomatch hq
  cls := ⟨h.inj, h.fld⟩
  isa := ⟨h.ans, h.isc⟩
  kw := fun k x m ks e hq => nomatch hq
  gl := h.gl
  kd := fun g x e => ⟨h.kd g x e⟩
  en := h.en
  rn := fun k x e => ⟨(h.rn k x e).1, fun hq => nomatch hq⟩
  exm := h.exm
  room := fun hq => nomatch hq
  ef := h.ef
theorem lk_of {X : Cx} {k : Nat} (h : Hd X.prog X.w X.K X.mg X.base c z P n T fa) (A : AllOk X.prog X.w X.K X.mg X.base c z P T fa k) (hr : Room (2 * k + 1) X.A) : Lk true X c z P (callN P T k) n where
  an := h.an
  fn := fun f x e _ => let ⟨h1, D, h2⟩ := h.fn f x e; ⟨fa f, h1, fnz h A hr h2 (h.cold.1 f x e)⟩
  hfn := fun f x e => let ⟨h1, ⟨D, h2⟩, h3⟩ := h.hfn f x e; ⟨fa f, h1, fnzh h A (L2H.roomH_of hr) h2 h3⟩
  mkc := fun k x e => let ⟨h1, h2, D, h3⟩ := h.mkc k x e; ⟨h1, fun _ => ⟨⟨_, h2, fnz h A hr h3 (h.cold.2.1 k x e)⟩⟩⟩
  mth := fun k m f e _ => let ⟨h1, h2, ⟨D, h3⟩, h4⟩ := h.mth k m f e; ⟨⟨_, h1, h2, fnz h A hr h3 (h.cold.2.2.1 k m f e)⟩, h4⟩
  prp := fun k m f e _ => let ⟨h1, ⟨p, h2⟩, ⟨D, h3⟩, h4⟩ := h.prp k m f e; ⟨p, _, h1, h2, fnz h A hr h3 h4⟩
  cls := ⟨h.inj, h.fld⟩
  isa := ⟨h.ans, h.isc⟩
  kw := fun k x m ks e _ => by
    obtain ⟨h1, D, h2, h3⟩ := h.kw k x m ks e
    obtain ⟨fd, F, _⟩ := h.df _ D h2
    obtain ⟨g, gV, mv, g1, g2, g3⟩ := h3 fd F
    exact ⟨_, h1, ⟨⟨_, fd, D.ps, g, gV, mv, (A _ D fd h2 F).1 (h.cold.2.2.2 k _ e), hr.mono (Nat.le_succ _), g1, g2, g3⟩, F.kp⟩⟩
  gl := h.gl
  kd := fun g x e => ⟨h.kd g x e⟩
  en := h.en
  rn := fun k x e => ⟨(h.rn k x e).1, fun _ => ⟨(h.rn k x e).2⟩⟩
  exm := h.exm
  room := fun _ => ⟨_, hr⟩
  ef := h.ef
end
end Z


set_option Elab.async false
set_option linter.all false
set_option autoImplicit false
set_option maxRecDepth 100000
set_option maxHeartbeats 4000000
namespace Z
open PySem L2

section
variable {prog : Program} {w : World} {K : PySem.W.Frag} {mg : Str → Option Value} {base : Heap} {c : Cz} {z : Ez} {P : Prg} {n : Nz} {T : Nat → Option Df} {fa : Nat → Addr}
theorem all0 : AllOk prog w K mg base c z P T fa 0 := fun f D fd _ _ =>
  ⟨fun _ => ⟨fun vs H Q E ⟨_, _, _, _, _, _, h⟩ => h.elim, fun A outer s H args us vs Q E hr he hb hv ⟨_, _, _, _, _, _, h⟩ => h.elim⟩, fun _ => ⟨fun vs H Q E ⟨_, _, _, _, _, _, h⟩ => h.elim, fun A outer s H args us vs Q E p hr ht hp he hb hv ⟨_, _, _, _, _, _, h⟩ => h.elim⟩⟩
theorem start_stb {w0 : Wd} {M0 : Sto} {H : Hp} {N : List Str} {fl : List Bool} {ds : List D} {vs : List V} (m : MR c w0 M0 H) (r : Rf c w0 M0 H fl ds vs) (hl : ds.length ≤ N.length) : StB c ⟨w0, M0, H, fun _ => True, fun _ _ _ _ => True.intro⟩ w0 (startZ fl N.length ds) M0 (L2.start N vs) H := by
  have hv := r.length
  have at_ : ∀ {i : Nat} {v : V}, vs[i]? = some v → (L2.start N vs)[i]? = some (some v) := fun {i v} e => by
    unfold L2.start
    have hi : i < vs.length := (List.getElem?_eq_some_iff.mp e).1
    rw [List.getElem?_append_left (by simpa using hi), List.getElem?_map, e]; rfl
  refine ⟨.refl, m, ?_, fun i d e => ?_, fun i d e => ?_, fun i mo e => ?_, fun i j mo mo' e => ?_, fun i k d e => ?_, True.intro⟩
  · rw [start_len _ _ _ hl]
    unfold L2.start
    simp; omega
  · rcases start_at r e with q | ⟨d', v, h1, ⟨h2, h3⟩ | ⟨h2, h3⟩⟩
    · cases q
    · cases h2; exact ⟨v, at_ h1, h3⟩
    · cases h2
  · rcases start_at r e with q | ⟨d', v, h1, ⟨h2, h3⟩ | ⟨h2, h3⟩⟩
    · cases q
    · cases h2
    · cases h2; exact ⟨v, at_ h1, h3⟩
  · rcases start_at r e with q | ⟨d', v, h1, ⟨h2, h3⟩ | ⟨h2, h3⟩⟩
    · cases q
    · cases h2
    · cases h2
  · rcases start_at r e with q | ⟨d', v, h1, ⟨h2, h3⟩ | ⟨h2, h3⟩⟩
    · cases q
    · cases h2
    · cases h2
  · rcases start_at r e with q | ⟨d', v, h1, ⟨h2, h3⟩ | ⟨h2, h3⟩⟩
    · cases q
    · cases h2
    · cases h2
theorem allS (h : Hd prog w K mg base c z P n T fa) {k : Nat} (A : AllOk prog w K mg base c z P T fa k) : AllOk prog w K mg base c z P T fa (k + 1) := by
  intro f D fd hT F
  obtain ⟨S, hps, hN, chk⟩ := h.st f D hT
  have e2 : 2 * (k + 1) = (2 * k + 1) + 1 := by omega
  rw [e2]
  refine ⟨fun hh => ?_, fun hh => ?_⟩
  · refine F.ok S (fun vs H Q E ⟨w0, M0, ds, _, r, hl, _⟩ => by rw [r.length, hl, hps]) fun cdv Ar outer s H vs Q E hr ⟨w0, M0, ds, m, r, hl, sat⟩ => ?_
    let X : Cx := cxOf (L2N.CX prog w) prog w K mg base D.N D.d.qual D.d.scope (fa f) cdv Ar outer s H E
    have hr' : Room (2 * k + 1) X.A := hr
    have hX : Hd X.prog X.w X.K X.mg X.base c z P n T fa := h
    have hA : AllOk X.prog X.w X.K X.mg X.base c z P T fa k := A
    have lk : Lk true X c z P (callN P T k) n := lk_of hX hA hr'
    have tk : L2N.Takes X (fun cls d _ H => E cls d H) := L2N.takes_of rfl rfl rfl rfl
    have ok : Ok true X c z (fun cls d _ H => E cls d H) := ⟨h.hK, fun _ => rfl, tk, S.nd, by have := hr'.un; omega, h.bn⟩
    have g : Gd true X c z (fun cls d _ H => E cls d H) P (callN P T k) n := ⟨ok, lk, xa_none h.ef h.nx, fun _ => h.nx, S.kind, (fun q => nomatch q)⟩
    have gs : Gs true X c := ⟨fun _ => passes_of rfl, fun _ => ⟨rfl, rfl⟩, fun _ => h.nx, fun _ => rfl⟩
    rw [hh] at chk
    refine ⟨_, okSs (B := ⟨w0, M0, H, fun _ => True, fun _ _ _ _ => True.intro⟩) D.ss g gs D.d.body chk, ?_⟩
    refine ⟨w0, startZ (P.brw f) D.N.length ds, M0, start_stb m r (by rw [hl, ← hps]; exact hN), ?_⟩
    have sat : Sat c z E w0 M0 H (callN P T (k + 1) f ds M0) Q := sat
    have ec : callN P T (k + 1) f ds M0 = endZ (evSs P (callN P T k) D.ss (startZ (P.brw f) D.N.length ds) M0) := by
      show (T f).elim Res.bad _ = _
      rw [hT]; rfl
    rw [ec] at sat
    cases e : evSs P (callN P T k) D.ss (startZ (P.brw f) D.N.length ds) M0 with
    | nx σ M1 => rw [e] at sat; exact fun w1 τ1 H1 s1 => sat w1 H1 .non s1.kp s1.m rfl
    | rt d M1 => rw [e] at sat; exact fun w1 H1 v k1 m1 r1 => sat w1 H1 v k1 m1 r1
    | bk σ M1 => rw [e] at sat; exact sat.elim
    | ct σ M1 => rw [e] at sat; exact sat.elim
    | exc a d σ M1 => rw [e] at sat; exact fun w1 τ1 H1 dd v s1 r1 h1 h2 h3 => sat w1 H1 dd v s1.kp s1.m r1 h1 h2 h3
    | bad => rw [e] at sat; exact sat.elim
  · obtain ⟨oc, od, dV, kV, doc, pm, an, cdv, ct, osl, rfl, lk, hcd, _, _⟩ := F.ex
    refine L2H.fn_ofH lk hcd S (fun vs H Q E ⟨w0, M0, ds, _, r, hl, _⟩ => by rw [r.length, hl, hps]) fun Ar outer s H vs Q E p ht hr ⟨w0, M0, ds, m, r, hl, sat⟩ => ?_
    let X : Cx := L2H.cxH (L2N.CX prog w) prog w K mg base D.N D.d.qual D.d.scope (fa f) cdv Ar outer s H E p
    have hr' : L2H.RoomH (2 * k + 1) X.A := hr
    have hX : Hd X.prog X.w X.K X.mg X.base c z P n T fa := h
    have hA : AllOk X.prog X.w X.K X.mg X.base c z P T fa k := A
    have lk : Lk false X c z P (callN P T k) n := lk_h hX hA hr'
    have tk : L2N.Takes X (fun cls d _ H => E cls d H) := L2N.takes_of rfl rfl rfl rfl
    have ok : Ok false X c z (fun cls d _ H => E cls d H) := ⟨h.hK, (fun q => nomatch q), tk, S.nd, by have := hr'.un; omega, h.bn⟩
    have hc : L2H.HotC X := ⟨p, ht, List.mem_singleton.mpr rfl⟩
    have g : Gd false X c z (fun cls d _ H => E cls d H) P (callN P T k) n := ⟨ok, lk, xa_none h.ef h.nx, (fun q => nomatch q), S.kind, fun _ => hc⟩
    have gs : Gs false X c := ⟨(fun q => nomatch q), (fun q => nomatch q), (fun q => nomatch q), fun _ => rfl⟩
    rw [hh] at chk
    refine ⟨_, okSs (B := ⟨w0, M0, H, fun _ => True, fun _ _ _ _ => True.intro⟩) D.ss g gs D.d.body chk, ?_⟩
    refine ⟨w0, startZ (P.brw f) D.N.length ds, M0, start_stb m r (by rw [hl, ← hps]; exact hN), ?_⟩
    have sat : Sat c z E w0 M0 H (callN P T (k + 1) f ds M0) Q := sat
    have ec : callN P T (k + 1) f ds M0 = endZ (evSs P (callN P T k) D.ss (startZ (P.brw f) D.N.length ds) M0) := by
      show (T f).elim Res.bad _ = _
      rw [hT]; rfl
    rw [ec] at sat
    cases e : evSs P (callN P T k) D.ss (startZ (P.brw f) D.N.length ds) M0 with
    | nx σ M1 => rw [e] at sat; exact fun w1 τ1 H1 s1 => sat w1 H1 .non s1.kp s1.m rfl
    | rt d M1 => rw [e] at sat; exact fun w1 H1 v k1 m1 r1 => sat w1 H1 v k1 m1 r1
    | bk σ M1 => rw [e] at sat; exact sat.elim
    | ct σ M1 => rw [e] at sat; exact sat.elim
    | exc a d σ M1 => rw [e] at sat; exact fun w1 τ1 H1 dd v s1 r1 h1 h2 h3 => sat w1 H1 dd v s1.kp s1.m r1 h1 h2 h3
    | bad => rw [e] at sat; exact sat.elim

theorem allK (h : Hd prog w K mg base c z P n T fa) : ∀ k, AllOk prog w K mg base c z P T fa k
  | 0 => all0
  | k + 1 => allS h (allK h k)
end
end Z


set_option Elab.async false
set_option linter.all false
set_option autoImplicit false
set_option maxRecDepth 100000
set_option maxHeartbeats 4000000
namespace Z
open PySem L2
/-- attributes' names by number; beyond the list: names that no text has -/
def anOf (l : List Str) (i : Nat) : Str := match l[i]? with
  | some s => s
  | none => ⟨#[i + 2000000]⟩
def attrsB (l : List Str) : Bool := decide l.Nodup && l.all fun s => s.cps.all fun c => decide (c < 2000000)
theorem anOf_inj {l : List Str} (h : attrsB l = true) : ∀ a b, anOf l a = anOf l b → a = b := by
  obtain ⟨h1, h2⟩ := Bool.and_eq_true_iff.mp h
  have nd := of_decide_eq_true h1
  have sm : ∀ s ∈ l, ∀ n, s ≠ (⟨#[n + 2000000]⟩ : Str) := fun s hs n e => by
    have := List.all_eq_true.mp h2 s hs
    rw [e] at this
    simp at this; omega
  intro a b e
  unfold anOf at e
  cases ea : l[a]? with
  | none =>
    rw [ea] at e
    cases eb : l[b]? with
    | none => rw [eb] at e; have e := congrArg Str.cps e; simp at e; exact e
    | some s => rw [eb] at e; exact absurd e.symm (sm s (List.mem_of_getElem? eb) a)
  | some s =>
    rw [ea] at e
    cases eb : l[b]? with
    | none => rw [eb] at e; exact absurd e (sm s (List.mem_of_getElem? ea) b)
    | some s' =>
      rw [eb] at e
      have e : s = s' := e
      subst e
      obtain ⟨h3, h4⟩ := List.getElem?_eq_some_iff.mp ea
      obtain ⟨h5, h6⟩ := List.getElem?_eq_some_iff.mp eb
      exact (List.getElem_inj nd).mp (h4.trans h6.symm)
end Z


set_option Elab.async false
set_option linter.all false
set_option autoImplicit false
set_option maxRecDepth 100000
set_option maxHeartbeats 4000000
namespace Z
open PySem L2

/-! ### a text's tables -/
structure Tb where
  frz : List Nat
  ini : List Nat
  mth : List ((Nat × Nat) × Nat)
  /-- properties: class, name, getter -/
  prp : List ((Nat × Nat) × Nat) := []
  /-- tuples that stand as defaults -/
  dfv : List ((PySem.W.Frag → Addr) × D) := []
  gl : List (Str × D)
  kd : List (Str × List (List Nat × D))
  brw : List (Nat × List Bool)
  dfl : List ((Nat × Nat) × List D)
  kw : List (Str × Nat × List Str × Nat × List D)
  fld : List (Nat × Nat)
  isa : List ((Ty × Ty) × Bool)
  exf : List Nat
  exm : List ((Nat × Nat) × Bool)
  fn : List (Option Str)
  cn : List Str
  en : List Str
  rn : List Bool
  an : List Str
  /-- defs' second readings: the name's text -/
  hot : List (Nat × Str)
  dfs : List Df
def Tb.P (t : Tb) : Prg where
  frz k := t.frz.contains k
  ini k := t.ini.getD k 0
  mth k m := t.mth.lookup (k, m)
  prp k m := t.prp.lookup (k, m)
  gl g := (t.gl[g]?.map (·.2)).getD .non
  kd g := (t.kd[g]?.map (·.2)).getD []
  brw f := (t.brw.lookup f).getD []
  dfl f n := (t.dfl.lookup (f, n)).getD []
  kq k := (t.kw[k]?.map fun q => (q.2.2.2.1, q.2.2.2.2)).getD (0, [])
  ar f := (t.dfs[f]?.map fun D => D.ps.length).getD 0
  fld k f := t.fld.contains (k, f)
  exf k := t.exf.getD k 0
  exm k m := t.exm.lookup (k, m)
  isa a b := t.isa.lookup (a, b)
  hot f := (t.hot.lookup f).isSome
def Tb.n (t : Tb) : Nz where
  fn f := (t.fn[f]?).join
  hf f := t.hot.lookup f
  cn k := t.cn[k]?
  en k := t.en[k]?
  rn k := if t.rn.getD k false then t.en[k]? else none
  gn g := t.gl[g]?.map (·.1)
  kdn g := t.kd[g]?.map (·.1)
  an := anOf t.an
  kw k := t.kw[k]?.map fun q => (q.1, q.2.1, q.2.2.1)
def Tb.T (t : Tb) (f : Nat) : Option Df := t.dfs[f]?
def Tb.ca (t : Tb) (K : PySem.W.Frag) (k : Nat) : Addr := He.ga K (t.cn.getD k Str.empty)
def Tb.ea (t : Tb) (K : PySem.W.Frag) (k : Nat) : Addr := He.ga K (t.en.getD k Str.empty)
/-- what stands as a keyword's default -/
def kdA (K : PySem.W.Frag) (p : Str × Option Str) (x : Str) : Addr := match K.lookup (He.fAd K p) with
  | some ⟨_, _, .func fd, _⟩ => (match fd.kwdefaults with
    | .ref d => (match PySem.W.nsIn K d x with
      | some (some (.ref a)) => a
      | _ => 0)
    | _ => 0)
  | _ => 0
/-- a property's getter -/
def pAd (K : PySem.W.Frag) (p : Str × Option Str) : Addr := match PySem.W.findIn K (.ref (He.ga K p.1)) (p.2.getD Str.empty) with
  | some (some (.ref a)) => (match PySem.W.recIn K a "property" with
    | some (.ref g :: _) => g
    | _ => 0)
  | _ => 0
def Tb.isP (t : Tb) (f : Nat) : Bool := t.prp.any fun q => q.2 == f
def Tb.fa (t : Tb) (K : PySem.W.Frag) (f : Nat) : Addr := match t.dfs[f]? with
  | some D => if t.isP f then pAd K D.d.at_ else He.fAd K D.d.at_
  | none => 0
def Tb.c (t : Tb) (K : PySem.W.Frag) : Cz := ⟨K, t.ca K, anOf t.an, fun _ _ _ _ => False⟩
def Tb.z (t : Tb) (K : PySem.W.Frag) : Ez := ⟨t.ea K, fun k => anOf t.an (t.exf.getD k 0)⟩
/-! ### a constant of the top -/
mutual
def relD (K : PySem.W.Frag) : D → Value → Bool
  | .non, u => (match u with
    | .none => true
    | _ => false)
  | .bl b, u => (match u with
    | .bool c => b == c
    | _ => false)
  | .int i, u => (match u with
    | .int j _ => decide (i = j)
    | _ => false)
  | .str x, u => (match u with
    | .str y _ => decide (sS x = y) && x.all (· < 1114112)
    | _ => false)
  | .tup ds, u => (match u with
    | .ref a => (match K.lookup a with
      | some ⟨.type c, _, .seq its _, _⟩ => decide (c = "tuple") && (decide (its.size ≤ sizeLine) && relDs K ds its.toList)
      | _ => false)
    | _ => false)
  | .frl ds, u => (match u with
    | .ref a => (match K.lookup a with
      | some ⟨.type c, none, .seq its _, _⟩ => decide (c = "list") && (decide (its.size ≤ sizeLine) && relDs K ds its.toList)
      | _ => false)
    | _ => false)
  | .lst _, _ => false
  | .dct _ _, _ => false
  | .obj _ _ _, _ => false
  | .ref _, _ => false
def relDs (K : PySem.W.Frag) : List D → List Value → Bool
  | [], us => us.isEmpty
  | d :: ds, us => (match us with
    | u :: us => relD K d u && relDs K ds us
    | [] => false)
end
section
variable {K : PySem.W.Frag} {c : Cz}
mutual
theorem relD_ok (hK : c.K = K) : ∀ (d : D) (u : Value), relD K d u = true → ∃ v, RelV v u ∧ ∀ w : Wd, R c w d v
  | .non, u, h => by
    rw [relD.eq_def] at h; dsimp only at h
    split at h
    · exact ⟨.non, rfl, fun _ => rfl⟩
    · cases h
  | .bl b, u, h => by
    rw [relD.eq_def] at h; dsimp only at h
    split at h
    · rename_i c'
      have e := eq_of_beq h
      subst e
      exact ⟨.bl b, rfl, fun _ => rfl⟩
    · cases h
  | .int i, u, h => by
    rw [relD.eq_def] at h; dsimp only at h
    split at h
    · rename_i j t
      have e := of_decide_eq_true h
      subst e
      exact ⟨.int i, ⟨t, rfl⟩, fun _ => rfl⟩
    · cases h
  | .str x, u, h => by
    rw [relD.eq_def] at h; dsimp only at h
    split at h
    · rename_i y t
      obtain ⟨h1, h2⟩ := ands h
      have e := of_decide_eq_true h1
      subst e
      exact ⟨.str (sS x), ⟨t, rfl⟩, fun _ => ⟨rfl, fun n hn => by simpa using List.all_eq_true.mp h2 n hn⟩⟩
    · cases h
  | .tup ds, u, h => by
    rw [relD.eq_def] at h; dsimp only at h
    split at h
    · rename_i a
      split at h
      · rename_i c' od its m sl hl
        obtain ⟨h1, h2⟩ := ands h
        obtain ⟨h2, h3⟩ := ands h2
        obtain ⟨vs, r1, r2⟩ := relDs_ok hK ds its.toList h3
        have e := of_decide_eq_true h1
        subst e
        exact ⟨.ref a, rfl, fun w => ⟨a, vs, rfl, .inr ⟨_, its, m, hK ▸ hl, rfl, rfl, of_decide_eq_true h2, r1⟩, r2 w⟩⟩
      · cases h
    · cases h
  | .frl ds, u, h => by
    rw [relD.eq_def] at h; dsimp only at h
    split at h
    · rename_i a
      split at h
      · rename_i c' its m sl hl
        obtain ⟨h1, h2⟩ := ands h
        obtain ⟨h2, h3⟩ := ands h2
        obtain ⟨vs, r1, r2⟩ := relDs_ok hK ds its.toList h3
        have e := of_decide_eq_true h1
        subst e
        exact ⟨.ref a, rfl, fun w => ⟨a, vs, rfl, .inr ⟨_, its, m, hK ▸ hl, rfl, rfl, rfl, of_decide_eq_true h2, r1⟩, r2 w⟩⟩
      · cases h
    · cases h
  | .lst _, _, h => by rw [relD.eq_def] at h; cases h
  | .dct _ _, _, h => by rw [relD.eq_def] at h; cases h
  | .obj _ _ _, _, h => by rw [relD.eq_def] at h; cases h
  | .ref _, _, h => by rw [relD.eq_def] at h; cases h
theorem relDs_ok (hK : c.K = K) : ∀ (ds : List D) (us : List Value), relDs K ds us = true → ∃ vs, Vals vs us ∧ ∀ w : Wd, Rs c w ds vs
  | [], us, h => by
    rw [relDs.eq_def] at h; dsimp only at h
    cases us with
    | nil => exact ⟨[], .nil, fun _ => rfl⟩
    | cons _ _ => cases h
  | d :: ds, us, h => by
    rw [relDs.eq_def] at h; dsimp only at h
    split at h
    · rename_i u us
      obtain ⟨h1, h2⟩ := ands h
      obtain ⟨v, r1, r2⟩ := relD_ok hK d u h1
      obtain ⟨vs, q1, q2⟩ := relDs_ok hK ds us h2
      exact ⟨v :: vs, .cons r1 q1, fun w => ⟨v, vs, rfl, r2 w, q2 w⟩⟩
    · cases h
end
end
/-! ### an own error's class -/
def errCls (K : PySem.W.Frag) (C : Addr) : Bool := match K.lookup C with
  | some ⟨.type "type", _, .cls cd, sl⟩ => (match cd.mro, sl.toList with
    | .ref C' :: bm, [_, _, _, _, some (.builtin n), _] => C' == C && n == "ValueError.__new__" && !cd.hasDel && cd.hasDict && PySem.HandSPX.refsVE bm
    | _, _ => false)
  | _ => false
theorem errCls_ok {K : PySem.W.Frag} {C : Addr} (h : errCls K C = true) : ∃ nm q N bs bm sn sub ab col dd k0 k1 k2 k3 k5, K.lookup C = some (excClassObj nm q C N bs bm true sn sub ab col dd k0 k1 k2 k3 k5 "ValueError.__new__") ∧ PySem.HandSPX.refsVE bm = true := by
  unfold errCls at h
  split at h
  · rename_i dd cd sl ho
    split at h
    · rename_i C' bm k0 k1 k2 k3 n k5 hm hs
      simp only [Bool.and_eq_true, beq_iff_eq, Bool.not_eq_true'] at h
      obtain ⟨⟨⟨⟨rfl, rfl⟩, hdel⟩, hd⟩, hr⟩ := h
      obtain ⟨nm, bs, mro, ns, qn, hd', sn, sub, ab, col, del⟩ := cd
      dsimp only at hm hdel hd
      subst hm hdel hd
      have hsl : sl = #[k0, k1, k2, k3, some (.builtin "ValueError.__new__"), k5] := by
        obtain ⟨l⟩ := sl
        simp only at hs
        rw [hs]
      subst hsl
      exact ⟨nm, qn, ns, bs, bm, sn, sub, ab, col, dd, k0, k1, k2, k3, k5, ho, hr⟩
    · cases h
  · cases h
def parB (f : Str) (a : Arguments) : Bool := match a with
  | ⟨[], [⟨s, none, _⟩, ⟨g, none, _⟩], none, [], [], none, []⟩ => decide (s = "self") && decide (g = f)
  | _ => false
theorem parB_ok {f : Str} {a : Arguments} (h : parB f a = true) : ∃ p1 p2, a = PySem.ErrX.iA f p1 p2 := by
  unfold parB at h
  split at h
  · rename_i s p1 g p2
    obtain ⟨h1, h2⟩ := ands h
    have h1 := of_decide_eq_true h1
    have h2 := of_decide_eq_true h2
    subst h1 h2
    exact ⟨p1, p2, rfl⟩
  · cases h
def bodB (f : Str) (b : FuncBody) : Bool := match b with
  | .stmts [.Expr (.Call (.Attribute (.Call (.Name su _) [] [] _) i s2) [.Constant (.str _) _ _] [] s4) _, .Assign [.Attribute (.Name se _) g _] (.Name g2 _) _] =>
    decide (su = "super") && decide (i = "__init__") && decide (se = "self") && decide (g = f) && decide (g2 = f) && s2.endLine == s4.line
  | _ => false
theorem bodB_ok {f : Str} {b : FuncBody} (h : bodB f b = true) : ∃ txt j s0 s1 s2 s3 s4 s5 q1 q2 q3 q4, b = .stmts (PySem.ErrX.iB f txt j s0 s1 s2 s3 s4 s5 q1 q2 q3 q4) ∧ (s2.endLine == s4.line) = true := by
  unfold bodB at h
  split at h
  · rename_i su s0 s1 i s2 txt j s3 s4 s5 se q1 g q2 g2 q3 q4
    obtain ⟨h, h6⟩ := ands h
    obtain ⟨h, h5⟩ := ands h
    obtain ⟨h, h4⟩ := ands h
    obtain ⟨h, h3⟩ := ands h
    obtain ⟨h1, h2⟩ := ands h
    have h1 := of_decide_eq_true h1
    have h2 := of_decide_eq_true h2
    have h3 := of_decide_eq_true h3
    have h4 := of_decide_eq_true h4
    have h5 := of_decide_eq_true h5
    subst h1 h2 h3 h4 h5
    exact ⟨txt, j, s0, s1, s2, s3, s4, s5, q1, q2, q3, q4, rfl, h6⟩
  · cases h
def scoB (f : Str) (s : Scope) : Bool := match s with
  | ⟨.function, ns, false, false, []⟩ => decide (ns = [(("self" : Str), NameKind.local), (f, .local), (("__class__" : Str), .free), (("super" : Str), .globalImplicit)])
  | _ => false
theorem scoB_ok {f : Str} {s : Scope} (h : scoB f s = true) : s = PySem.ErrX.iS f := by
  unfold scoB at h
  split at h
  · have h := of_decide_eq_true h
    subst h
    rfl
  · cases h
def errFn (K : PySem.W.Frag) (file f : Str) (C fI : Addr) : Bool := match K.lookup fI with
  | some ⟨_, _, .func ⟨nm, qual, ps, bd, sc, gl, [(cn, cc)], .none, .none, _, _, _, .ref cda, _, blt⟩, _⟩ =>
    decide (nm = "__init__") && parB f ps && bodB f bd && scoB f sc && decide (gl = mainGlobals) && decide (blt = builtinsNs) && decide (cn = "__class__") && PySem.W.codeIn K (.ref cda) qual &&
    (match K.lookup cda with
      | some ⟨_, _, .fields vs, _⟩ => (match (vs[2]? : Option Value) with
        | some (.str fl _) => (file == fl : Bool)
        | _ => false)
      | _ => false) &&
    (match K.lookup cc with
      | some ⟨_, _, .cell (some (.ref D)), _⟩ => decide (D = C)
      | _ => false)
  | _ => false
theorem bind_err {qual f : Str} {p1 p2 : Pos} {body : List PySem.Stmt} {sc : Scope} {doc pm : Value} {an : Option Addr} {cdv ct : Value} {cc : Addr} {a b : Value} (hf : (f == ("self" : Str)) = false) :
    bindArgs (PySem.W.ksFn "__init__" qual (PySem.ErrX.iA f p1 p2) body sc .none .none doc pm an cdv ct cc) ⟨[a, b], []⟩ = Pure.pure [(("self" : Str), a), (f, b)] := by
  have hs : seqItems? Value.none = Pure.pure none := rfl
  have hf' : (("self" : Str) == f) = false := by rw [beq_eq_false_iff_ne] at hf ⊢; exact fun e => hf e.symm
  unfold bindArgs PySem.ErrX.iA
  simp only [PySem.W.fnX, hs, pure_bind, List.map_nil, List.map_cons, List.nil_append, List.append_nil, List.forIn_nil, Option.getD_none, List.length_nil, List.length_cons, Nat.sub_zero, List.zip_nil_right, Option.isNone_none, List.drop_nil, Bool.not_true, Bool.false_eq_true, if_false, gt_iff_lt, Nat.lt_irrefl, decide_false, Bool.false_and,
    List.zip_cons_cons, List.take_succ_cons, List.take_zero, List.filter_cons, List.filter_nil, List.lookup_cons, beq_self_eq_true, hf, hf', List.isEmpty_nil, List.filterMap_cons, List.filterMap_nil, Option.map_some, Option.isNone_some]
theorem errFn_ok {K : PySem.W.Frag} {prog : Program} {f : Str} {C fI : Addr} (hf : (f == ("self" : Str)) = false) (h : errFn K prog.main.file f C fI = true) :
    ∃ (oc : Value) (od : Option Addr) (doc pm : Value) (an : Option Addr) (ct : Value) (osl : Array (Option Value)) (txt : Str) (j : Nat) (p1 p2 s0 s1 s2 s3 s4 s5 q1 q2 q3 q4 : Pos) (qual : Str) (cda cc : Addr) (ccl cl : Value) (cdd cld : Option Addr) (ccs csl : Array (Option Value)) (vs : Array Value) (file : Str) (tf : Tok),
    K.lookup fI = some ⟨oc, od, .func (PySem.W.ksFn "__init__" qual (PySem.ErrX.iA f p1 p2) (PySem.ErrX.iB f txt j s0 s1 s2 s3 s4 s5 q1 q2 q3 q4) (PySem.ErrX.iS f) .none .none doc pm an (.ref cda) ct cc), osl⟩ ∧ PySem.W.codeIn K (.ref cda) qual = true ∧
      K.lookup cda = some ⟨ccl, cdd, .fields vs, ccs⟩ ∧ vs[2]? = some (.str file tf) ∧ ((prog.main.file : Str) == file) = true ∧ K.lookup cc = some ⟨cl, cld, .cell (some (.ref C)), csl⟩ ∧ (s2.endLine == s4.line) = true ∧
      ∀ a b : Value, bindArgs (PySem.W.ksFn "__init__" qual (PySem.ErrX.iA f p1 p2) (PySem.ErrX.iB f txt j s0 s1 s2 s3 s4 s5 q1 q2 q3 q4) (PySem.ErrX.iS f) .none .none doc pm an (.ref cda) ct cc) ⟨[a, b], []⟩ = Pure.pure [(("self" : Str), a), (f, b)] := by
  unfold errFn at h
  split at h
  · rename_i oc od nm qual ps bd sc gl cn cc doc pm an cda ct blt osl hl
    obtain ⟨h, h10⟩ := ands h
    obtain ⟨h, h9⟩ := ands h
    obtain ⟨h, h8⟩ := ands h
    obtain ⟨h, h7⟩ := ands h
    obtain ⟨h, h6⟩ := ands h
    obtain ⟨h, h5⟩ := ands h
    obtain ⟨h, h4⟩ := ands h
    obtain ⟨h, h3⟩ := ands h
    obtain ⟨h1, h2⟩ := ands h
    have h1 := of_decide_eq_true h1
    have h5 := of_decide_eq_true h5
    have h6 := of_decide_eq_true h6
    have h7 := of_decide_eq_true h7
    obtain ⟨p1, p2, h2⟩ := parB_ok h2
    obtain ⟨txt, j, s0, s1, s2, s3, s4, s5, q1, q2, q3, q4, h3, hline⟩ := bodB_ok h3
    have h4 := scoB_ok h4
    subst h1 h2 h3 h4 h5 h6 h7
    split at h9
    · rename_i ccl cdd vs ccs hc
      split at h9
      · rename_i fl tf hv
        split at h10
        · rename_i cl cld D csl hd
          have h10 := of_decide_eq_true h10
          subst h10
          exact ⟨oc, od, doc, pm, an, ct, osl, txt, j, p1, p2, s0, s1, s2, s3, s4, s5, q1, q2, q3, q4, qual, cda, cc, ccl, cl, cdd, cld, ccs, csl, vs, fl, tf, hl, h8, hc, hv, h9, hd, hline, fun a b => bind_err hf⟩
        · cases h10
      · cases h9
    · cases h9
  · cases h
end Z


set_option Elab.async false
set_option linter.all false
set_option autoImplicit false
set_option maxRecDepth 100000
set_option maxHeartbeats 4000000
namespace Z
open PySem L2

section
variable {K : PySem.W.Frag}
def gloB (K : PySem.W.Frag) (x : Str) : Bool := (He.Fa.glo x).ok K
def eqB (a b : Option (Option Value)) : Bool := decide (a = b)
/-- an error that is raised: all that its class, its __init__ and its catch want -/
def errB (K : PySem.W.Frag) (prog : Program) (f : Str) (C : Addr) : Bool :=
  errCls K C && eqB (PySem.W.findIn K (.ref C) "__setattr__") (some (some (.builtin "object.__setattr__"))) && eqB (PySem.W.findIn K (.ref C) f) (some none) && eqB (PySem.W.findIn K (.ref C) "__init__") (some (some (.ref (He.ma K C "__init__")))) &&
  decide (PySem.W.typeIn K (.ref (He.ma K C "__init__")) = some (.type "function")) && PySem.W.keepIn K (.ref C) && decide (PySem.W.subIn K (.ref C) (.type "BaseException") = some true) && decide (PySem.W.typeIn K (.ref C) = some (.type "type")) &&
  eqB (PySem.W.ks_superIn K C C "__init__") (some (some (.builtin "ValueError.__init__"))) && decide (PySem.W.subIn K (.ref C) (.type "ValueError") = some true) && decide (PySem.W.mroIn K C (.ref C) = some true) && eqB (PySem.W.nsIn K cStatics "thirdparty.any") (some none) &&
  eqB (PySem.W.nsIn K mainGlobals "super") (some none) && !(prog.main.scope.names.lookup ("super" : Str)).isSome && !(f == ("self" : Str)) && !(f == ("__class__" : Str)) && !(f == ("super" : Str)) && !(f == ("__debug__" : Str)) && errFn K prog.main.file f C (He.ma K C "__init__")
theorem errB_ok {prog : Program} {h : Heap} {mg : Str → Option Value} {f : Str} {C : Addr} (X : K.In h) (G : h.Ns mainGlobals mg) (e : errB K prog f C = true) : PySem.ErrX.ErrTxt prog K mg f C (He.ma K C "__init__") := by
  unfold errB at e
  obtain ⟨e, e19⟩ := ands e
  obtain ⟨e, e18⟩ := ands e
  obtain ⟨e, e17⟩ := ands e
  obtain ⟨e, e16⟩ := ands e
  obtain ⟨e, e15⟩ := ands e
  obtain ⟨e, e14⟩ := ands e
  obtain ⟨e, e13⟩ := ands e
  obtain ⟨e, e12⟩ := ands e
  obtain ⟨e, e11⟩ := ands e
  obtain ⟨e, e10⟩ := ands e
  obtain ⟨e, e9⟩ := ands e
  obtain ⟨e, e8⟩ := ands e
  obtain ⟨e, e7⟩ := ands e
  obtain ⟨e, e6⟩ := ands e
  obtain ⟨e, e5⟩ := ands e
  obtain ⟨e, e4⟩ := ands e
  obtain ⟨e, e3⟩ := ands e
  obtain ⟨e1, e2⟩ := ands e
  exact ⟨errCls_ok e1, of_decide_eq_true e2, of_decide_eq_true e3, of_decide_eq_true e4, of_decide_eq_true e5, e6, of_decide_eq_true e7, of_decide_eq_true e8, of_decide_eq_true e9, of_decide_eq_true e10, of_decide_eq_true e11, of_decide_eq_true e12,
    PySem.W.mg_none_of X G (of_decide_eq_true e13), nots e14, ⟨nots e15, nots e16, nots e17, nots e18⟩, errFn_ok (nots e15) e19⟩
def erkB (K : PySem.W.Frag) (f : Str) (C : Addr) : Bool := xfB K C && eqB (PySem.W.findIn K (.ref C) f) (some none) && eqB (PySem.W.findIn K (.ref C) "__class__") (some (some (.builtin "object.__class__"))) &&
  eqB (PySem.W.specialIn K (.builtin "object.__class__") "__get__") (some (some (.builtin "getset_descriptor.__get__"))) && decide (PySem.W.takesIn K (.builtin "object.__class__") = some true) && decide (PySem.W.mroIn K C (.type "object") = some true)
theorem erkB_ok {z : Ez} {k : Nat} (e : erkB K (z.ef k) (z.ea k) = true) : ErrK K z k := by
  unfold erkB at e
  obtain ⟨e, e6⟩ := ands e
  obtain ⟨e, e5⟩ := ands e
  obtain ⟨e, e4⟩ := ands e
  obtain ⟨e, e3⟩ := ands e
  obtain ⟨e1, e2⟩ := ands e
  exact ⟨xfB_ok e1, of_decide_eq_true e2, of_decide_eq_true e3, of_decide_eq_true e4, of_decide_eq_true e5, of_decide_eq_true e6⟩
def iscB (K : PySem.W.Frag) (x : Str) : Bool := (He.Fa.cls x).ok K && eqB (PySem.W.findIn K (.ref (He.ga K x)) "__class__") (some (some (.builtin "object.__class__"))) &&
  eqB (PySem.W.specialIn K (.builtin "object.__class__") "__get__") (some (some (.builtin "getset_descriptor.__get__"))) && decide (PySem.W.takesIn K (.builtin "object.__class__") = some true) && decide (PySem.W.mroIn K (He.ga K x) (.type "object") = some true)
theorem iscB_ok {x : Str} (e : iscB K x = true) : IsC K (He.ga K x) := by
  unfold iscB at e
  obtain ⟨e, e5⟩ := ands e
  obtain ⟨e, e4⟩ := ands e
  obtain ⟨e, e3⟩ := ands e
  obtain ⟨e1, e2⟩ := ands e
  exact ⟨He.cls_ok e1, of_decide_eq_true e2, of_decide_eq_true e3, of_decide_eq_true e4, of_decide_eq_true e5⟩
def neB (K : PySem.W.Frag) (C : Addr) : Bool := eqB (PySem.W.findIn K (.ref C) "__ne__") (some (some (.builtin "object.__ne__"))) && decide (PySem.W.mroIn K C (.type "object") = some true)
theorem neB_ok {C : Addr} (e : neB K C = true) : NeK K C := by
  obtain ⟨e1, e2⟩ := ands e
  exact ⟨of_decide_eq_true e1, of_decide_eq_true e2⟩
/-! ### all that is looked at in the written part -/
def allI {α : Type} (l : List α) (p : Nat → α → Bool) : Bool := (List.range l.length).all fun i => match l[i]? with
  | some a => p i a
  | none => true
theorem allI_at {α : Type} {l : List α} {p : Nat → α → Bool} (h : allI l p = true) {i : Nat} {a : α} (e : l[i]? = some a) : p i a = true := by
  have := List.all_eq_true.mp h i (by simpa using (List.getElem?_eq_some_iff.mp e).1)
  rw [e] at this
  exact this
def gvB (K : PySem.W.Frag) (a : Addr) (x : Str) (d : D) : Bool := match PySem.W.nsIn K a x with
  | some (some u) => relD K d u
  | _ => false
theorem gvB_ok {a : Addr} {x : Str} {d : D} (h : gvB K a x d = true) : ∃ u, PySem.W.nsIn K a x = some (some u) ∧ relD K d u = true := by
  unfold gvB at h
  split at h
  · rename_i u e; exact ⟨u, e, h⟩
  · cases h
/-- a getter -/
def fnP (K : PySem.W.Frag) (a : Addr) : He.FnW := match K.lookup a with
  | some ⟨_, _, .func fd, _⟩ => some (fd.name, fd.qualname, fd.params, fd.body, fd.scope, fd.globals, fd.closure, fd.builtins)
  | _ => none
def okP (K : PySem.W.Frag) (a : Addr) (d : He.DefD) : Bool := PySem.W.keepIn K (.ref a) && (match K.lookup a with
  | some ⟨_, _, .func fd, _⟩ => PySem.W.codeIn K fd.code d.qual && (He.dflB K fd.defaults (d.dvs K) && He.kwdB K fd.kwdefaults (d.kws K))
  | _ => false)
theorem fnP_ok {a : Addr} {d : He.DefD} (e : fnP K a = d.val) (h : okP K a d = true) : ∃ fd, FunD K d.name d.qual d.params d.body d.scope (d.dvs K) (d.kws K) a fd := by
  unfold okP at h
  obtain ⟨h0, h⟩ := ands h
  split at h
  · rename_i oc od fd osl hl
    obtain ⟨h1, h⟩ := ands h
    obtain ⟨h2, h3⟩ := ands h
    unfold fnP at e
    rw [hl] at e
    obtain ⟨n, qn, ps, bd, sc, gl, cl, df, kd, doc, pm, an, cdv, ct, bl⟩ := fd
    simp only [He.DefD.val, Option.some.injEq, Prod.mk.injEq] at e
    obtain ⟨rfl, rfl, rfl, rfl, rfl, rfl, rfl, rfl⟩ := e
    exact ⟨_, ⟨⟨oc, od, df, kd, doc, pm, an, cdv, ct, osl, rfl, hl, h1, He.dflB_ok h2, He.kwdB_ok h3⟩, h0⟩⟩
  · cases h
def propB (K : PySem.W.Frag) (C : Addr) (f : Str) (g : Addr) : Bool := match PySem.W.findIn K (.ref C) f with
  | some (some (.ref p)) => eqB (PySem.W.specialIn K (.ref p) "__get__") (some (some (.builtin "property.__get__"))) && decide (PySem.W.takesIn K (.ref p) = some true) && (match PySem.W.recIn K p "property" with
    | some (.ref g' :: _) => decide (g' = g)
    | _ => false)
  | _ => false
theorem propB_ok {C : Addr} {f : Str} {g : Addr} (h : propB K C f g = true) : ∃ p, PropOf K C f p g := by
  unfold propB at h
  split at h
  · rename_i p e
    obtain ⟨h, h3⟩ := ands h
    obtain ⟨h1, h2⟩ := ands h
    split at h3
    · rename_i g' rest e2
      have h3 := of_decide_eq_true h3
      subst h3
      exact ⟨p, ⟨e, of_decide_eq_true h1, of_decide_eq_true h2, _, e2⟩⟩
    · cases h3
  · cases h
def Tb.ex (t : Tb) (prog : Program) (K : PySem.W.Frag) : Bool :=
  biNames.all (fun x => (He.Fa.free x).ok K) &&
  allI t.fn (fun f o => match o with
    | some x => gloB K x && decide (t.fa K f = He.ga K x) && (t.dfs[f]?).isSome
    | none => true) &&
  allI t.cn (fun k x => gloB K x && (He.Fa.mkr x).ok K && decide (t.fa K (t.ini.getD k 0) = He.ma K (He.ga K x) "__init__") && (t.dfs[t.ini.getD k 0]?).isSome) &&
  t.mth.all (fun q => let x := t.cn.getD q.1.1 Str.empty; (He.Fa.cls x).ok K && (He.Fa.meth x (anOf t.an q.1.2)).ok K && decide (t.fa K q.2 = He.ma K (He.ga K x) (anOf t.an q.1.2)) && (t.dfs[q.2]?).isSome && (!decide (anOf t.an q.1.2 = ("__eq__" : Str)) || neB K (He.ga K x))) &&
  t.fld.all (fun q => let x := t.cn.getD q.1 Str.empty; (He.Fa.cls x).ok K && (He.Fa.noat x (anOf t.an q.2)).ok K) &&
  t.isa.all (fun q => decide (PySem.W.kitOne K (tyVal (t.c K) (t.z K) q.1.1) (tyVal (t.c K) (t.z K) q.1.2) = some q.2) && (match q.1.1 with
    | .cls k => iscB K (t.cn.getD k Str.empty)
    | _ => true)) &&
  t.gl.all (fun q => gvB K mainGlobals q.1 q.2) &&
  t.kd.all (fun q => gloB K q.1 && q.2.all fun r => gvB K (He.ga K q.1) (sS r.1) r.2) &&
  t.en.all (fun x => gloB K x) &&
  allI t.rn (fun k b => !b || errB K prog (anOf t.an (t.exf.getD k 0)) (t.ea K k)) &&
  t.exm.all (fun q => decide (PySem.W.exmOne K (.ref (t.ea K q.1.1)) (.ref (t.ea K q.1.2)) = some q.2) && erkB K (anOf t.an (t.exf.getD q.1.1 0)) (t.ea K q.1.1)) &&
  t.kw.all (fun q => gloB K q.1 && decide (t.fa K q.2.2.2.1 = He.ga K q.1)) &&
  t.hot.all (fun q => gloB K q.2 && decide (t.fa K q.1 = He.ga K q.2) && (t.dfs[q.1]?).isSome) &&
  (t.prp.all (fun q => let x := t.cn.getD q.1.1 Str.empty; (He.Fa.cls x).ok K && propB K (He.ga K x) (anOf t.an q.1.2) (t.fa K q.2) && (match t.dfs[q.2]? with
    | some D => okP K (t.fa K q.2) D.d
    | none => false)) &&
  t.dfv.all (fun q => relD K q.2 (.ref (q.1 K))))
/-- second readings are no first ones, and bear no defaults -/
def Tb.coldB (t : Tb) : Bool := t.hot.all fun q => (t.fn.getD q.1 none).isNone && decide (q.1 ≠ 0) && t.ini.all (· ≠ q.1) && t.mth.all (·.2 ≠ q.1) && t.prp.all (·.2 ≠ q.1) && t.kw.all (·.2.2.2.1 ≠ q.1) && t.dfl.all (·.1.1 ≠ q.1)
/-- a def, by its text alone -/
def stB (t : Tb) (f : Nat) (D : Df) : Bool :=
  decide (D.d.scope.kind = .function) && !D.d.scope.isCoroutine && !D.d.scope.isGenerator && decide D.N.Nodup && decide (D.N.take D.ps.length = D.ps) && D.ps.all (fun x => D.d.scope.names.lookup x == some .local || D.d.scope.names.lookup x == some .cell) &&
  D.d.scope.names.all (fun y => !(y.2 == .free)) && decide (D.ps.length ≤ D.N.length) && chSs t.n t.P D.N D.d.scope.names (!t.P.hot f) D.ss D.d.body
theorem stB_ok {t : Tb} {f : Nat} {D : Df} (e : stB t f D = true) : FnScope D.N D.ps D.d.scope ∧ D.ps.length ≤ D.N.length ∧ chSs t.n t.P D.N D.d.scope.names (!t.P.hot f) D.ss D.d.body = true := by
  unfold stB at e
  obtain ⟨e, e9⟩ := ands e
  obtain ⟨e, e8⟩ := ands e
  obtain ⟨e, e7⟩ := ands e
  obtain ⟨e, e6⟩ := ands e
  obtain ⟨e, e5⟩ := ands e
  obtain ⟨e, e4⟩ := ands e
  obtain ⟨e, e3⟩ := ands e
  obtain ⟨e1, e2⟩ := ands e
  refine ⟨⟨of_decide_eq_true e1, nots e2, nots e3, of_decide_eq_true e4, of_decide_eq_true e5, fun x hx => ?_, fun y hy z => ?_⟩, of_decide_eq_true e8, e9⟩
  · have := List.all_eq_true.mp e6 x hx
    simpa using this
  · have := List.all_eq_true.mp e7 y hy
    rw [z] at this
    simp at this
end
end Z


set_option Elab.async false
set_option linter.all false
set_option autoImplicit false
set_option maxRecDepth 100000
set_option maxHeartbeats 4000000
namespace Z
open PySem L2

/-! ### the Hook -/
def Tb.ts (t : Tb) : List He.Tab := t.kd.map fun q => (fun K => He.ga K q.1, q.2.map fun r => sS r.1)
def dsI (p : Nat → Bool) : Nat → List Df → List He.DefD
  | _, [] => []
  | i, D :: l => if p i then D.d :: dsI p (i + 1) l else dsI p (i + 1) l
theorem dsI_mem {p : Nat → Bool} : ∀ {l : List Df} {i f : Nat} {D : Df}, l[f]? = some D → p (i + f) = true → D.d ∈ dsI p i l
  | [], _, _, _, h, _ => by simp at h
  | E :: l, i, 0, D, h, hp => by
    simp at h; subst h
    rw [dsI, if_pos (by simpa using hp)]; exact List.mem_cons_self
  | E :: l, i, f + 1, D, h, hp => by
    have h : l[f]? = some D := by simpa using h
    have := dsI_mem (i := i + 1) h (by rw [← hp]; congr 1; omega)
    rw [dsI]
    split
    · exact List.mem_cons_of_mem _ this
    · exact this
def Tb.ds (t : Tb) : List He.DefD := dsI (fun f => !t.isP f) 0 t.dfs
def Tb.pds (t : Tb) : List He.DefD := dsI t.isP 0 t.dfs
def KZ (n : Nat) (g : Addr → Option Obj) : PySem.W.Frag := He.frT g (cStatics :: He.asD g n)
abbrev AlZ : Type := He.AlT × Bool × List He.FnW
def obsZ (n : Nat) (t : Tb) (prog : Program) (g : Addr → Option Obj) : AlZ := (He.obsT [] t.ds t.ts (KZ n g), t.ex prog (KZ n g), t.pds.map fun d => fnP (KZ n g) (pAd (KZ n g) d.at_))
structure SaysZ (t : Tb) (prog : Program) (w : World) (K : PySem.W.Frag) : Prop where
  s : He.SaysT [] t.ds t.ts w K
  e : t.ex prog K = true
  p : (t.pds.map fun d => fnP K (pAd K d.at_)) = t.pds.map He.DefD.val
def hookZ (n : Nat) (t : Tb) (prog : Program) : PySem.W.Hook where
  α := AlZ
  obs := fun s => obsZ n t prog s.heap.get?
  val := fun w => (He.valT t.ds t.ts w, true, t.pds.map He.DefD.val)
  says := fun w h => ∃ K : PySem.W.Frag, K.In h ∧ SaysZ t prog w K
  of := fun _ _ e => ⟨_, He.frT_in, congrArg (fun z : AlZ => z.1) e, congrArg (fun z : AlZ => z.2.1) e, congrArg (fun z : AlZ => z.2.2) e⟩
  keeps := fun _ _ _ ⟨K, hK, c⟩ k => ⟨K, PySem.W.Frag.In.keeps hK k, c⟩
theorem obsZ_eq {n : Nat} {t : Tb} {prog : Program} {g : Addr → Option Obj} {s : Shared} (h : ∀ a, g a = s.heap.get? a) : obsZ n t prog g = (hookZ n t prog).obs s := by
  have e : g = s.heap.get? := funext h
  rw [e] <;> rfl
section
variable {t : Tb} {prog : Program} {w : World} {K : PySem.W.Frag} {h : Heap} {mg : Str → Option Value} {base : Heap}
theorem getD_of {l : List Str} {k : Nat} {x : Str} (e : l[k]? = some x) : l.getD k Str.empty = x := by
  rw [List.getD_eq_getElem?_getD, e]; rfl
theorem lookup_mem {α β : Type} [BEq α] [LawfulBEq α] {a : α} {b : β} : ∀ {l : List (α × β)}, l.lookup a = some b → (a, b) ∈ l
  | [], h => by cases h
  | (x, y) :: l, h => by
    rw [List.lookup_cons] at h
    cases e : a == x with
    | true =>
      rw [e] at h
      cases h
      rw [eq_of_beq e]
      exact List.mem_cons_self ..
    | false =>
      rw [e] at h
      exact List.mem_cons_of_mem _ (lookup_mem h)
theorem cold_of {t : Tb} (cd : t.coldB = true) {f : Nat} (hf : t.P.hot f = true) : t.fn.getD f none = none ∧ f ≠ 0 ∧ (∀ k ∈ t.ini, k ≠ f) ∧ (∀ q ∈ t.mth, q.2 ≠ f) ∧ (∀ q ∈ t.kw, q.2.2.2.1 ≠ f) ∧ ∀ q ∈ t.dfl, q.1.1 ≠ f := by
  have hf : (t.hot.lookup f).isSome = true := hf
  obtain ⟨x, hx⟩ := Option.isSome_iff_exists.mp hf
  have q := List.all_eq_true.mp cd _ (lookup_mem hx)
  dsimp only at q
  obtain ⟨q, q6⟩ := ands q
  obtain ⟨q, q5⟩ := ands q
  obtain ⟨q, _⟩ := ands q
  obtain ⟨q, q4⟩ := ands q
  obtain ⟨q, q3⟩ := ands q
  obtain ⟨q1, q2⟩ := ands q
  exact ⟨by simpa using q1, of_decide_eq_true q2, fun k hk => by simpa using List.all_eq_true.mp q3 k hk, fun k hk => by simpa using List.all_eq_true.mp q4 k hk, fun k hk => by simpa using List.all_eq_true.mp q5 k hk, fun k hk => by simpa using List.all_eq_true.mp q6 k hk⟩
theorem cold_p {t : Tb} (cd : t.coldB = true) {f : Nat} (hf : t.P.hot f = true) : ∀ q ∈ t.prp, q.2 ≠ f := by
  have hf : (t.hot.lookup f).isSome = true := hf
  obtain ⟨x, hx⟩ := Option.isSome_iff_exists.mp hf
  have q := List.all_eq_true.mp cd _ (lookup_mem hx)
  dsimp only at q
  obtain ⟨q, _⟩ := ands q
  obtain ⟨q, _⟩ := ands q
  obtain ⟨_, q4⟩ := ands q
  exact fun k hk => by simpa using List.all_eq_true.mp q4 k hk
theorem hot_no {t : Tb} {f : Nat} (h : t.P.hot f = true → False) : t.P.hot f = false := by
  cases e : t.P.hot f with
  | true => exact (h e).elim
  | false => rfl
theorem dfv_of (S : SaysZ t prog w K) : ∀ q ∈ t.dfv, relD K q.2 (.ref (q.1 K)) = true := by
  have E := S.e
  unfold Tb.ex at E
  obtain ⟨E, e14⟩ := ands E
  exact fun q hq => List.all_eq_true.mp (ands e14).2 q hq
theorem hd_of (X : K.In h) (G : h.Ns mainGlobals mg) (S : SaysZ t prog w K) (inj : attrsB t.an = true) (st : allI t.dfs (stB t) = true) (cd : t.coldB = true)
    (hbd : ∀ (f : Nat) (D : Df) (fd : FuncData), t.dfs[f]? = some D → FunD K D.d.name D.d.qual D.d.params D.d.body D.d.scope (D.d.dvs K) (D.d.kws K) (t.fa K f) fd → ∀ n, n + (t.P.dfl f n).length = D.ps.length → ∃ (ds : List Value) (dvs : List V), Binds K fd D.ps ds ∧ Vals dvs ds ∧ ∀ w : Wd, Rs (t.c K) w (t.P.dfl f n) dvs)
    (hkw : ∀ (k : Nat) (q : Str × Nat × List Str × Nat × List D), t.kw[k]? = some q → ∃ D : Df, t.dfs[q.2.2.2.1]? = some D ∧ ∀ fd, FunD K D.d.name D.d.qual D.d.params D.d.body D.d.scope (D.d.dvs K) (D.d.kws K) (t.fa K q.2.2.2.1) fd →
      ∃ (g : List Value → List Value → List Value) (gV : List V → List V → List V) (mv : List V), KBn K fd D.ps q.2.1 q.2.2.1 g gV ∧ (∀ vs zs, gV vs zs = vs ++ (mv ++ zs)) ∧ ∀ w : Wd, Rs (t.c K) w q.2.2.2.2 mv) :
    Hd prog w K mg base (t.c K) (t.z K) t.P t.n t.T (t.fa K) := by
  have E := S.e
  unfold Tb.ex at E
  obtain ⟨E, e14⟩ := ands E
  obtain ⟨e14, e15⟩ := ands e14
  obtain ⟨E, e13⟩ := ands E
  obtain ⟨E, e12⟩ := ands E
  obtain ⟨E, e11⟩ := ands E
  obtain ⟨E, e10⟩ := ands E
  obtain ⟨E, e9⟩ := ands E
  obtain ⟨E, e8⟩ := ands E
  obtain ⟨E, e7⟩ := ands E
  obtain ⟨E, e6⟩ := ands E
  obtain ⟨E, e5⟩ := ands E
  obtain ⟨E, e4⟩ := ands E
  obtain ⟨E, e3⟩ := ands E
  obtain ⟨e1, e2⟩ := ands E
  have glo : ∀ {x : Str}, gloB K x = true → mg x = some (.ref (He.ga K x)) := fun h => He.glo_ok X G h
  exact {
    an := rfl
    hK := rfl
    nx := fun _ _ _ _ h => h
    ef := fun k => rfl
    bn := fun x hx => He.free_ok X G (List.all_eq_true.mp e1 x hx)
    df := fun f D hT => by
      have hT' : t.dfs[f]? = some D := hT
      have hF : ∃ fd, FunD K D.d.name D.d.qual D.d.params D.d.body D.d.scope (D.d.dvs K) (D.d.kws K) (t.fa K f) fd := by
        cases hp : t.isP f with
        | false =>
          have ea : t.fa K f = He.fAd K D.d.at_ := by unfold Tb.fa; rw [hT']; show (if t.isP f = true then _ else _) = _; rw [hp]; rfl
          rw [ea]
          exact S.s.d.defs (d := D.d) (dsI_mem (i := 0) hT' (by rw [Nat.zero_add, hp]; rfl))
        | true =>
          have ea : t.fa K f = pAd K D.d.at_ := by unfold Tb.fa; rw [hT']; show (if t.isP f = true then _ else _) = _; rw [hp]; rfl
          have hm : D.d ∈ t.pds := dsI_mem (i := 0) hT' (by rw [Nat.zero_add, hp])
          have e1 := List.map_inj_left.mp S.p D.d hm
          obtain ⟨q, hq, hf⟩ := List.any_eq_true.mp (show t.prp.any (fun q => q.2 == f) = true from hp)
          have hf := eq_of_beq hf
          have q3 := (ands (List.all_eq_true.mp e14 q hq)).2
          rw [hf, hT'] at q3
          rw [ea] at q3 ⊢
          exact fnP_ok e1 q3
      obtain ⟨fd, F⟩ := hF
      have ear : t.P.ar f = D.ps.length := by show ((t.dfs[f]?).map fun D => D.ps.length).getD 0 = _; rw [hT']; rfl
      exact ⟨fd, F, fun n hn => hbd f D fd hT' F n (by rw [hn, ear])⟩
    st := fun f D hT => by
      have hT' : t.dfs[f]? = some D := hT
      obtain ⟨s1, s2, s3⟩ := stB_ok (allI_at st hT')
      have ear : t.P.ar f = D.ps.length := by show ((t.dfs[f]?).map fun D => D.ps.length).getD 0 = _; rw [hT']; rfl
      exact ⟨s1, ear.symm, s2, s3⟩
    hfn := fun f x hx => by
      have hx : t.hot.lookup f = some x := hx
      have q := List.all_eq_true.mp e13 _ (lookup_mem hx)
      dsimp only at q
      obtain ⟨q, q3⟩ := ands q
      obtain ⟨q1, q2⟩ := ands q
      rw [of_decide_eq_true q2]
      exact ⟨glo q1, Option.isSome_iff_exists.mp q3, by show (t.hot.lookup f).isSome = true; rw [hx]; rfl⟩
    nod := fun f hf n => by
      obtain ⟨_, _, _, _, _, h6⟩ := cold_of cd hf
      show (t.dfl.lookup (f, n)).getD [] = []
      cases e : t.dfl.lookup (f, n) with
      | none => rfl
      | some d => exact absurd rfl (h6 _ (lookup_mem e))
    cold := by
      refine ⟨fun f x hx => hot_no fun hf => ?_, fun k x hx => hot_no fun hf => ?_, fun k m f hx => hot_no fun hf => ?_, fun k q hx => hot_no fun hf => ?_⟩
      · have h1 := (cold_of cd hf).1
        have hx : (t.fn[f]?).join = some x := hx
        rw [List.getD_eq_getElem?_getD] at h1
        cases e : t.fn[f]? with
        | none => rw [e] at hx; cases hx
        | some o => rw [e] at hx h1; cases (show o = some x from hx); cases h1
      · obtain ⟨_, h2, h3, _⟩ := cold_of cd hf
        have hf2 : t.P.ini k = t.ini.getD k 0 := rfl
        rw [hf2] at h2 h3
        rw [List.getD_eq_getElem?_getD] at h2 h3
        cases e : t.ini[k]? with
        | none => rw [e] at h2; exact h2 rfl
        | some o => rw [e] at h3; exact h3 o (List.mem_of_getElem? e) rfl
      · obtain ⟨_, _, _, h4, _⟩ := cold_of cd hf
        exact h4 _ (lookup_mem hx) rfl
      · obtain ⟨_, h2, _, _, h5, _⟩ := cold_of cd hf
        have hx : t.kw[k]?.map (fun q => (q.1, q.2.1, q.2.2.1)) = some q := hx
        cases e : t.kw[k]? with
        | none => rw [e] at hx; cases hx
        | some o =>
          have ek : (t.P.kq k).1 = o.2.2.2.1 := by show (((t.kw[k]?).map fun q => (q.2.2.2.1, q.2.2.2.2)).getD (0, [])).1 = _; rw [e]; rfl
          rw [ek] at h5
          exact h5 o (List.mem_of_getElem? e) rfl
    fn := fun f x hx => by
      have hx : (t.fn[f]?).join = some x := hx
      cases e : t.fn[f]? with
      | none => rw [e] at hx; cases hx
      | some o =>
        rw [e] at hx
        have hx : o = some x := hx
        subst hx
        have q := allI_at e2 e
        dsimp only at q
        obtain ⟨q, q3⟩ := ands q
        obtain ⟨q1, q2⟩ := ands q
        rw [of_decide_eq_true q2]
        exact ⟨glo q1, Option.isSome_iff_exists.mp q3⟩
    mkc := fun k x hx => by
      have hx : t.cn[k]? = some x := hx
      have q := allI_at e3 hx
      obtain ⟨q, q4⟩ := ands q
      obtain ⟨q, q3⟩ := ands q
      obtain ⟨q1, q2⟩ := ands q
      have ec : (t.c K).ca k = He.ga K x := by show He.ga K (t.cn.getD k Str.empty) = _; rw [getD_of hx]
      rw [ec]
      refine ⟨glo q1, ?_, Option.isSome_iff_exists.mp q4⟩
      have := He.mkr_ok q2
      rw [← of_decide_eq_true q3] at this
      exact this
    mth := fun k m f hx => by
      have q := List.all_eq_true.mp e4 _ (lookup_mem hx)
      dsimp only at q
      obtain ⟨q, q5⟩ := ands q
      obtain ⟨q, q4⟩ := ands q
      obtain ⟨q, q3⟩ := ands q
      obtain ⟨q1, q2⟩ := ands q
      refine ⟨He.cls_ok q1, ?_, Option.isSome_iff_exists.mp q4, fun he => neB_ok ((Bool.or_eq_true_iff.mp q5).resolve_left (by
        have he : anOf t.an m = ("__eq__" : Str) := he
        rw [he]; simp))⟩
      have := He.meth_ok q2
      rw [← of_decide_eq_true q3] at this
      exact this
    prp := fun k m f hx => by
      have hx : t.prp.lookup (k, m) = some f := hx
      have hm := lookup_mem hx
      have q := List.all_eq_true.mp e14 _ hm
      dsimp only at q
      obtain ⟨q, q3⟩ := ands q
      obtain ⟨q1, q2⟩ := ands q
      refine ⟨He.cls_ok q1, propB_ok q2, ?_, hot_no fun hf => ?_⟩
      · show ∃ D, t.dfs[f]? = some D
        cases e : t.dfs[f]? with
        | none => rw [e] at q3; cases q3
        | some D => exact ⟨D, rfl⟩
      · exact cold_p cd hf _ hm rfl
    inj := anOf_inj inj
    fld := fun k f hx => by
      have hx : t.fld.contains (k, f) = true := hx
      have q := List.all_eq_true.mp e5 (k, f) (by simpa using hx)
      dsimp only at q
      obtain ⟨q1, q2⟩ := ands q
      exact ⟨He.cls_ok q1, He.noat_ok q2⟩
    ans := fun a b r hx => by
      have q := List.all_eq_true.mp e6 _ (lookup_mem hx)
      exact of_decide_eq_true (ands q).1
    isc := fun k b r hx => by
      have q := List.all_eq_true.mp e6 _ (lookup_mem hx)
      exact iscB_ok (ands q).2
    kw := fun k x m ks hx => by
      have hx : t.kw[k]?.map (fun q => (q.1, q.2.1, q.2.2.1)) = some (x, m, ks) := hx
      cases e : t.kw[k]? with
      | none => rw [e] at hx; cases hx
      | some q =>
        rw [e] at hx
        cases hx
        have ek : t.P.kq k = (q.2.2.2.1, q.2.2.2.2) := by show ((t.kw[k]?).map fun q => (q.2.2.2.1, q.2.2.2.2)).getD (0, []) = _; rw [e]; rfl
        have qq := List.all_eq_true.mp e12 q (List.mem_of_getElem? e)
        obtain ⟨q1, q2⟩ := ands qq
        obtain ⟨D, hD, hF⟩ := hkw k q e
        rw [ek]
        dsimp only
        exact ⟨by rw [of_decide_eq_true q2]; exact glo q1, D, hD, hF⟩
    gl := fun g x hx => by
      have hx : t.gl[g]?.map (·.1) = some x := hx
      cases e : t.gl[g]? with
      | none => rw [e] at hx; cases hx
      | some q =>
        rw [e] at hx
        cases hx
        have eg : t.P.gl g = q.2 := by show ((t.gl[g]?).map (·.2)).getD .non = _; rw [e]; rfl
        obtain ⟨u, h1, h2⟩ := gvB_ok (List.all_eq_true.mp e7 q (List.mem_of_getElem? e))
        obtain ⟨v, r1, r2⟩ := relD_ok (c := t.c K) rfl q.2 u h2
        rw [eg]
        exact ⟨u, v, PySem.W.mg_of X G h1, r1, r2⟩
    kd := fun g x hx => by
      have hx : t.kd[g]?.map (·.1) = some x := hx
      cases e : t.kd[g]? with
      | none => rw [e] at hx; cases hx
      | some q =>
        rw [e] at hx
        cases hx
        have eg : t.P.kd g = q.2 := by show ((t.kd[g]?).map (·.2)).getD [] = _; rw [e]; rfl
        have qq := List.all_eq_true.mp e8 q (List.mem_of_getElem? e)
        obtain ⟨q1, q2⟩ := ands qq
        obtain ⟨es, n, kd⟩ := S.s.tab g (t := (fun K => He.ga K q.1, q.2.map fun r => sS r.1)) (by show (t.kd.map _)[g]? = _; rw [List.getElem?_map, e]; rfl)
        refine ⟨_, glo q1, fun s d hl => ?_⟩
        rw [eg] at hl
        have hm : (s, d) ∈ q.2 := lookup_mem hl
        obtain ⟨u, h1, h2⟩ := gvB_ok (List.all_eq_true.mp q2 _ hm)
        obtain ⟨v, r1, r2⟩ := relD_ok (c := t.c K) rfl d u h2
        exact ⟨v, ⟨es, n, u, kd.at_, kd.lit, h1, r1⟩, r2⟩
    en := fun k x hx => by
      have hx : t.en[k]? = some x := hx
      have ec : (t.z K).ea k = He.ga K x := by show He.ga K (t.en.getD k Str.empty) = _; rw [getD_of hx]
      rw [ec]
      exact glo (List.all_eq_true.mp e9 x (List.mem_of_getElem? hx))
    rn := fun k x hx => by
      have hx : (if t.rn.getD k false then t.en[k]? else none) = some x := hx
      cases er : t.rn.getD k false with
      | false => rw [er] at hx; cases hx
      | true =>
        rw [er, if_pos rfl] at hx
        have ec : (t.z K).ea k = He.ga K x := by show He.ga K (t.en.getD k Str.empty) = _; rw [getD_of hx]
        refine ⟨by rw [ec]; exact glo (List.all_eq_true.mp e9 x (List.mem_of_getElem? hx)), ?_⟩
        have ek : t.rn[k]? = some true := by
          rw [List.getD_eq_getElem?_getD] at er
          cases e0 : t.rn[k]? with
          | none => rw [e0] at er; cases er
          | some b => rw [e0] at er; cases er; rfl
        have q : errB K prog (anOf t.an (t.exf.getD k 0)) (t.ea K k) = true := allI_at e10 ek
        exact ⟨He.ma K (t.ea K k) "__init__", errB_ok X G q⟩
    exm := fun k kc b hx => by
      have q := List.all_eq_true.mp e11 _ (lookup_mem hx)
      obtain ⟨q1, q2⟩ := ands q
      exact ⟨of_decide_eq_true q1, erkB_ok q2⟩ }
end
end Z


set_option Elab.async false
set_option linter.all false
set_option autoImplicit false
set_option maxRecDepth 100000
set_option maxHeartbeats 4000000
namespace Z
open PySem L2

/-! ### the law's end -/
/-- a def without any default -/
def noDfl (D : Df) : Bool := D.d.dfl.isEmpty && plainArgs D.d.params && decide (D.d.params.args.map (·.arg) = D.ps)
theorem binds_no {K : PySem.W.Frag} {D : Df} {a : Addr} {fd : FuncData} (h : noDfl D = true) (F : FunD K D.d.name D.d.qual D.d.params D.d.body D.d.scope (D.d.dvs K) (D.d.kws K) a fd) : Binds K fd D.ps [] := by
  obtain ⟨h, h3⟩ := ands h
  obtain ⟨h1, h2⟩ := ands h
  have e : D.d.dvs K = [] := by unfold He.DefD.dvs; rw [List.isEmpty_iff.mp h1]; rfl
  rw [e] at F
  have hps : D.d.params.args.map (·.arg) = D.ps := of_decide_eq_true h3
  refine FunD.bindsN F fun kV doc pm an cdv ct us hl => ?_
  rw [bind_plain h2 (by rw [hps]; exact hl), hps]
theorem dfl_no {t : Tb} {K : PySem.W.Frag} {f : Nat} {D : Df} {fd : FuncData} {c : Cz} (hb : ∀ n, (t.P.dfl f n).isEmpty = true) (h : noDfl D = true) (F : FunD K D.d.name D.d.qual D.d.params D.d.body D.d.scope (D.d.dvs K) (D.d.kws K) (t.fa K f) fd) :
    ∀ n, n + (t.P.dfl f n).length = D.ps.length → ∃ (ds : List Value) (dvs : List V), Binds K fd D.ps ds ∧ Vals dvs ds ∧ ∀ w : Wd, Rs c w (t.P.dfl f n) dvs := fun n _ => by
  rw [List.isEmpty_iff.mp (hb n)]
  exact ⟨[], [], binds_no h F, .nil, fun _ => rfl⟩
theorem rs_ints {c : Cz} {w : Wd} : ∀ ns : List Int, Rs c w (ns.map D.int) (ns.map V.int)
  | [] => rfl
  | n :: ns => ⟨_, _, rfl, rfl, rs_ints ns⟩
theorem walkZ {l : PySem.W.OpenLaw} {n kk fuel li : Nat} {q : Program} {loose : List Str} {XP : (Str → Option Value) → Heap → Prop} {d : DefRec} {x : Str} {t : Tb} {D0 : Df}
    (hn : l.most = some n) (hn2 : n ≤ sizeLine) (hdf : d.params.defaults = []) (hr : Room (2 * fuel) callerA)
    (inj : attrsB t.an = true) (st : allI t.dfs (stB t) = true) (hcold : t.coldB = true) (hli0 : t.P.hot li = false)
    (hbd : ∀ (K : PySem.W.Frag), (∀ q ∈ t.dfv, relD K q.2 (.ref (q.1 K)) = true) → ∀ (f : Nat) (D : Df) (fd : FuncData), t.dfs[f]? = some D → FunD K D.d.name D.d.qual D.d.params D.d.body D.d.scope (D.d.dvs K) (D.d.kws K) (t.fa K f) fd → ∀ n, n + (t.P.dfl f n).length = D.ps.length → ∃ (ds : List Value) (dvs : List V), Binds K fd D.ps ds ∧ Vals dvs ds ∧ ∀ w : Wd, Rs (t.c K) w (t.P.dfl f n) dvs)
    (hkw : ∀ (K : PySem.W.Frag) (k : Nat) (q : Str × Nat × List Str × Nat × List D), t.kw[k]? = some q → ∃ D : Df, t.dfs[q.2.2.2.1]? = some D ∧ ∀ fd, FunD K D.d.name D.d.qual D.d.params D.d.body D.d.scope (D.d.dvs K) (D.d.kws K) (t.fa K q.2.2.2.1) fd →
      ∃ (g : List Value → List Value → List Value) (gV : List V → List V → List V) (mv : List V), KBn K fd D.ps q.2.1 q.2.2.1 g gV ∧ (∀ vs zs, gV vs zs = vs ++ (mv ++ zs)) ∧ ∀ w : Wd, Rs (t.c K) w q.2.2.2.2 mv)
    (hli : t.dfs[li]? = some D0) (hfn : t.fn[li]? = some (some d.name)) (hps : D0.ps = [x]) (hnd : noDfl D0 = true) (hbr : t.P.brw li = [])
    (law : ∀ ns : List Int, ns.length ≤ n → ∃ M', callN t.P t.T fuel li [.frl (ns.map D.int)] ⟨0, fun _ => none⟩ = .ok (.bl true) M') :
    PySem.W.WalkO q loose XP (hookZ kk t l.prog).says l.row.toRowW d [] (fun f vs => PySem.call f vs) := by
  refine Att.attach_call hn hdf fun w s₀ s₁ mg mb fa o pm cd doc a vs ns G Y ho hd hcd hmg hobj hints hlen hg => ?_
  obtain ⟨K, KX, S⟩ := Y
  have hh := hd_of (base := s₁.heap) KX G.T.g S inj st hcold (hbd K (dfv_of S)) (hkw K)
  obtain ⟨e1, D1, e2⟩ := hh.fn li d.name (by show (t.fn[li]?).join = _; rw [hfn]; rfl)
  rw [hmg] at e1
  cases e1
  have e2 : t.dfs[li]? = some D1 := e2
  rw [hli] at e2
  cases e2
  obtain ⟨fd, F, _⟩ := hh.df li D0 hli
  have hb := binds_no hnd F
  rw [hps] at hb
  refine law_call (x := x) (fd := fd) (CX := L2N.CX l.prog w) (sp := spOf (t.c K) (t.z K) t.P (callN t.P t.T fuel) li) KX G.T.g G.T.b G.T.builtins G.T.nolimit hg hobj hints (Nat.le_trans hlen hn2) hr (fun base hK hN => ?_) (fun s u => ?_) (fun H hO hS => ?_) fun H e s' h => ?_
  · have hb2 := hd_of (base := base) KX G.T.g S inj st hcold (hbd K (dfv_of S)) (hkw K)
    have := (allK hb2 fuel li D0 fd hli F).1 hli0
    rw [hps] at this
    exact this
  · obtain ⟨h1, h2⟩ := ands hnd
    obtain ⟨h1, h3⟩ := ands h1
    have e : D0.d.dvs K = [] := by unfold He.DefD.dvs; rw [List.isEmpty_iff.mp h1]; rfl
    rw [e] at F
    have hq : D0.d.params.args.map (·.arg) = D0.ps := of_decide_eq_true h2
    have := FunD.bindsA (ps := D0.ps) F (fun kV doc pm an cdv ct us hl => by rw [bind_plain h3 (by rw [hq]; exact hl), hq]) s [u] (by rw [hps]; rfl)
    rw [hps] at this
    exact this
  · obtain ⟨M', hM⟩ := law ns hlen
    refine ⟨⟨H, fun _ => 0, 0⟩, ⟨0, fun _ => none⟩, [.frl (ns.map D.int)], { nx := rfl, sub := fun _ _ h => h, st := fun _ _ h => (nomatch h), inj := fun _ _ _ _ h => (nomatch h) }, ?_, ?_, ?_⟩
    · rw [hbr]
      exact ⟨_, _, rfl, .inl ⟨a, _, rfl, hS, rs_ints ns⟩, rfl⟩
    · show 1 = ((t.dfs[li]?).map fun D => D.ps.length).getD 0
      rw [hli]; show 1 = D0.ps.length; rw [hps]; rfl
    · rw [hM]
      exact fun w' H' v _ _ r => r
  · obtain ⟨_, _, _, _, _, _, _, _, _, _, _, _, h⟩ := h
    exact h
end Z


set_option Elab.async false
set_option linter.all false
set_option autoImplicit false
set_option maxRecDepth 100000
set_option maxHeartbeats 4000000
namespace Z
open PySem L2

/-! ### the checker by structural recursion, for the kernel -/
mutual
def kE (n : Nz) (P : Prg) (N : List Str) (q : Bool) (sc : Scp) : E → Bool → PySem.Expr → Bool
  | .lit d, md, e0 => (!md || dflT e0) && (match e0 with
    | .Constant c _ _ => litB d c
    | _ => false)
  | .slot i, md, e0 => (!md || dflT e0) && (match e0 with
    | .Name x _ => nmB N sc i x
    | _ => false)
  | .bor i, md, e0 => (!md || dflT e0) && (match e0 with
    | .Name x _ => nmB N sc i x
    | _ => false)
  | .glb g, md, e0 => (!md || dflT e0) && (match e0 with
    | .Name x _ => glB sc x && n.gn g == some x
    | _ => false)
  | .bin op a b, md, e0 => (!md || dflT e0) && (match e0 with
    | .BinOp a' o b' _ => opB op o && kE n P N q sc a false a' && kE n P N q sc b false b'
    | _ => false)
  | .neg a, md, e0 => (!md || dflT e0) && (match e0 with
    | .UnaryOp .USub a' _ => kE n P N q sc a false a'
    | _ => false)
  | .not_ a, false, e0 => (match e0 with
    | .UnaryOp .Not a' _ => kE n P N q sc a false a'
    | _ => false)
  | .not_ a, true, e0 => (match e0 with
    | .UnaryOp .Not a' _ => kE n P N q sc a true a'
    | _ => false)
  | .cmp o a b, false, e0 => (match e0 with
    | .Compare a' [o'] [b'] _ => cmB o o' && !behindInMarks o' b' && kE n P N q sc a false a' && kE n P N q sc b false b'
    | _ => false)
  | .cmp o a b, true, e0 => (match e0 with
    | .Compare a' [o'] [b'] _ => cmB o o' && !behindInMarks o' b' && kE n P N q sc a false a' && kE n P N q sc b false b'
    | _ => false)
  | .cmp2 o p a b e, false, e0 => (match e0 with
    | .Compare a' [o', p'] [b', e'] _ => cmB o o' && cmB p p' && !behindInMarks p' e' && kE n P N q sc a false a' && kE n P N q sc b false b' && kE n P N q sc e false e'
    | _ => false)
  | .cmp2 o p a b e, true, e0 => (match e0 with
    | .Compare a' [o', p'] [b', e'] _ => cmB o o' && cmB p p' && !behindInMarks p' e' && kE n P N q sc a false a' && kE n P N q sc b false b' && kE n P N q sc e false e'
    | _ => false)
  | .and_ a b, false, e0 => (match e0 with
    | .BoolOp .And (a' :: b' :: r) pos => !isB a && kE n P N q sc a false a' && !isB b && (match r with
      | [] => kE n P N q sc b false b'
      | r0 :: rs => kE n P N q sc b false (.BoolOp .And (b' :: r0 :: rs) pos))
    | _ => false)
  | .and_ a b, true, e0 => (match e0 with
    | .BoolOp .And (a' :: b' :: r) pos => kE n P N q sc a true a' && (match r with
      | [] => kE n P N q sc b true b'
      | r0 :: rs => kE n P N q sc b true (.BoolOp .And (b' :: r0 :: rs) pos))
    | _ => false)
  | .or_ a b, false, e0 => (match e0 with
    | .BoolOp .Or (a' :: b' :: r) pos => !isB a && kE n P N q sc a false a' && !isB b && (match r with
      | [] => kE n P N q sc b false b'
      | r0 :: rs => kE n P N q sc b false (.BoolOp .Or (b' :: r0 :: rs) pos))
    | _ => false)
  | .or_ a b, true, e0 => (match e0 with
    | .BoolOp .Or (a' :: b' :: r) pos => kE n P N q sc a true a' && (match r with
      | [] => kE n P N q sc b true b'
      | r0 :: rs => kE n P N q sc b true (.BoolOp .Or (b' :: r0 :: rs) pos))
    | _ => false)
  | .ite e a b, md, e0 => (!md || dflT e0) && (match e0 with
    | .IfExp e' a' b' _ => kE n P N q sc e true e' && !isB a && kE n P N q sc a false a' && !isB b && kE n P N q sc b false b'
    | _ => false)
  | .call f as, md, e0 => (!md || dflT e0) && (match e0 with
    | .Call (.Name x _) as' [] _ => q && glB sc x && n.fn f == some x && leF (flg as) (P.brw f) && as'.all plainB && kEs n P N q sc as as'
    | _ => false)
  | .callk k as zs, md, e0 => (!md || dflT e0) && (match e0 with
    | .Call (.Name x _) as' kws _ => q && glB sc x && n.kw k == some (x, cnt as, kwN kws) && leF (flg as) (P.brw (P.kq k).1) && noS as && !as'.isEmpty && as'.all plainB && kEs n P N q sc as as' && kKs n P N q sc zs kws
    | _ => false)
  | .mk k as, md, e0 => (!md || dflT e0) && (match e0 with
    | .Call (.Name x _) as' [] _ => q && glB sc x && n.cn k == some x && leF (flg as) (P.brw (P.ini k)).tail && as'.all plainB && kEs n P N q sc as as'
    | _ => false)
  | .mth m o as, md, e0 => (!md || dflT e0) && (match e0 with
    | .Call (.Attribute o' x apos) as' [] pos => q && x == n.an m && baseB o' && apos.endLine == pos.line && few as' && as'.all plainB && noB as && !isB o && kE n P N q sc o false o' && kEs n P N q sc as as'
    | _ => false)
  | .eqm m a b, false, e0 => (match e0 with
    | .Compare a' [.Eq] [b'] _ => q && n.an m == ("__eq__" : Str) && !isB a && kE n P N q sc a false a' && !isB b && kE n P N q sc b false b'
    | _ => false)
  | .eqm m a b, true, e0 => (match e0 with
    | .Compare a' [.Eq] [b'] _ => q && n.an m == ("__eq__" : Str) && !isB a && kE n P N q sc a false a' && !isB b && kE n P N q sc b false b'
    | _ => false)
  | .nem m a b, false, e0 => (match e0 with
    | .Compare a' [.NotEq] [b'] _ => q && n.an m == ("__eq__" : Str) && !isB a && kE n P N q sc a false a' && !isB b && kE n P N q sc b false b'
    | _ => false)
  | .nem m a b, true, e0 => (match e0 with
    | .Compare a' [.NotEq] [b'] _ => q && n.an m == ("__eq__" : Str) && !isB a && kE n P N q sc a false a' && !isB b && kE n P N q sc b false b'
    | _ => false)
  | .hcall f as, md, e0 => (!md || dflT e0) && (match e0 with
    | .Call (.Name x _) (e' :: as') [] _ => !q && glB sc x && n.hf f == some x && leF (flg as) (P.brw f) && plainB e' && as'.all plainB && kEs n P N q sc as (e' :: as')
    | _ => false)
  | .att f o, md, e0 => (!md || dflT e0) && (match e0 with
    | .Attribute o' x _ => x == n.an f && baseB o' && kE n P N q sc o false o'
    | _ => false)
  | .idx a b, md, e0 => (!md || dflT e0) && (match e0 with
    | .Subscript a' b' _ => noSlc b' && kE n P N q sc a false a' && kE n P N q sc b false b'
    | _ => false)
  | .slA a, md, e0 => (!md || dflT e0) && (match e0 with
    | .Subscript a' (.Slice none none none _) _ => kE n P N q sc a false a'
    | _ => false)
  | .slL a l, md, e0 => (!md || dflT e0) && (match e0 with
    | .Subscript a' (.Slice (some l') none none _) _ => kE n P N q sc a false a' && !isB l && kE n P N q sc l false l'
    | _ => false)
  | .slH a h, md, e0 => (!md || dflT e0) && (match e0 with
    | .Subscript a' (.Slice none (some h') none _) _ => kE n P N q sc a false a' && !isB h && kE n P N q sc h false h'
    | _ => false)
  | .slc a l h, md, e0 => (!md || dflT e0) && (match e0 with
    | .Subscript a' (.Slice (some l') (some h') none _) _ => kE n P N q sc a false a' && !isB l && kE n P N q sc l false l' && !isB h && kE n P N q sc h false h'
    | _ => false)
  | .tup as, md, e0 => (!md || dflT e0) && (match e0 with
    | .Tuple as' _ _ => noB as && kEs n P N q sc as as'
    | _ => false)
  | .lst as, md, e0 => (!md || dflT e0) && (match e0 with
    | .List as' _ => noB as && kEs n P N q sc as as'
    | _ => false)
  | .lstR as, md, e0 => (!md || dflT e0) && (match e0 with
    | .List as' _ => noB as && kEs n P N q sc as as'
    | _ => false)
  | .dctR ks as, md, e0 => (!md || dflT e0) && (match e0 with
    | .Dict keys es' _ => keysB ks keys && decide (ks.length = es'.length) && decide (ks.length ≤ 15) && kVs n P N q sc as es'
    | _ => false)
  | .bi b as, md, e0 => (!md || dflT e0) && (match e0 with
    | .Call (.Name x _) (e' :: as') [] _ => biB q b && glB sc x && x == biN b && plainB e' && as'.all plainB && kEs n P N q sc as (e' :: as')
    | _ => false)
  | .bm b o as, md, e0 => (!md || dflT e0) && (match e0 with
    | .Call (.Attribute o' x apos) (e' :: as') [] pos => (match b with
      | .split => x == ("split" : Str)
      | .join => x == ("join" : Str)
      | .get2 => x == ("get" : Str) && noB as
      | _ => false) && baseB o' && apos.endLine == pos.line && few (e' :: as') && plainB e' && as'.all plainB && kE n P N q sc o false o' && kEs n P N q sc as (e' :: as')
    | _ => false)
  | .isi a ts, md, e0 => (!md || dflT e0) && (match ts, e0 with
    | [t], .Call (.Name x _) [a', b'] [] _ => x == ("isinstance" : Str) && glB sc x && plainB a' && plainB b' && tyZ n sc t b' && kE n P N q sc a false a'
    | _, _ => false)
  | .exf i f, md, e0 => (!md || dflT e0) && (match e0 with
    | .Attribute (.Name x _) y _ => nmB N sc i x && y == n.an f
    | _ => false)
  | .exi i ts, md, e0 => (!md || dflT e0) && (match ts, e0 with
    | [t], .Call (.Name x _) [.Name y _, b'] [] _ => x == ("isinstance" : Str) && glB sc x && nmB N sc i y && plainB b' && tyZ n sc t b'
    | [t1, t2], .Call (.Name x _) [.Name y _, .Tuple [b1, b2] _ _] [] _ => x == ("isinstance" : Str) && glB sc x && nmB N sc i y && plainB b1 && plainB b2 && tyZ n sc t1 b1 && tyZ n sc t2 b2
    | _, _ => false)
  | .kdx g a, md, e0 => (!md || dflT e0) && (match e0 with
    | .Subscript (.Name x _) a' _ => glB sc x && n.kdn g == some x && noSlc a' && !isB a && kE n P N q sc a false a'
    | _ => false)
  | .prp m o, md, e0 => (!md || dflT e0) && (match e0 with
    | .Attribute o' x _ => q && x == n.an m && baseB o' && !isB o && kE n P N q sc o false o'
    | _ => false)
  | .comp is it cond b, md, e0 => (!md || dflT e0) && (match e0 with
    | .ListComp elt [⟨tg, iter, ifs, 0⟩] scope _ => q && blkB N sc scope is && tgtB N (relM scope sc) is tg && notSet iter && kJ n P N q sc it iter && (match ifs with
      | [] => isT cond
      | [e1] => kE n P N q (relM scope sc) cond true e1
      | _ => false) && !isB b && kE n P N q (relM scope sc) b false elt
    | _ => false)
def kEs (n : Nz) (P : Prg) (N : List Str) (q : Bool) (sc : Scp) : Es → List PySem.Expr → Bool
  | .nil, [] => true
  | .cons e es, a :: as => plainB a && !isB e && kE n P N q sc e false a && kEs n P N q sc es as
  | .conB e es, a :: as => plainB a && kE n P N q sc e false a && kEs n P N q sc es as
  | .star e es, .Starred a _ :: as => noB es && kE n P N q sc e false a && kEs n P N q sc es as
  | _, _ => false
def kKs (n : Nz) (P : Prg) (N : List Str) (q : Bool) (sc : Scp) : Es → List Keyword → Bool
  | .nil, [] => true
  | .cons e es, ⟨some _, a, _⟩ :: as => !isB e && kE n P N q sc e false a && kKs n P N q sc es as
  | _, _ => false
def kVs (n : Nz) (P : Prg) (N : List Str) (q : Bool) (sc : Scp) : Es → List PySem.Expr → Bool
  | .nil, [] => true
  | .cons e es, a :: as => !isB e && kE n P N q sc e false a && kVs n P N q sc es as
  | _, _ => false
def kJ (n : Nz) (P : Prg) (N : List Str) (q : Bool) (sc : Scp) : It → PySem.Expr → Bool
  | .seq e, e0 => !isB e && kE n P N q sc e false e0
  | .rng as, e0 => (match e0 with
    | .Call (.Name x _) [a] [] _ => glB sc x && x == ("range" : Str) && noB as && noS as && cnt as == 1 && plainB a && kEs n P N q sc as [a]
    | .Call (.Name x _) [a, b] [] _ => glB sc x && x == ("range" : Str) && noB as && noS as && cnt as == 2 && plainB a && plainB b && kEs n P N q sc as [a, b]
    | _ => false)
  | .lent _, _ => false
  | .enum _, _ => false
  | .zip _ _, _ => false
  | .rev _, _ => false
  | .items _, _ => false
end
theorem isK (a b : Bool) (h : a = b) : a = b := h
section
variable {n : Nz} {P : Prg} {N : List Str} {q : Bool}
mutual
theorem kE_f : ∀ (e : E) {sc : Scp}, kE n P N q sc e false = chE n P N q sc e ∧ kE n P N q sc e true = chT n P N q sc e
  | .lit d => by
    constructor
    · funext e0; rw [chE.eq_def]; simp only [kE, Bool.not_false, Bool.not_true, Bool.true_or, Bool.false_or, Bool.true_and] <;> rfl
    · funext e0; rw [chT.eq_def]; simp only []; rw [chE.eq_def]; simp only [kE, Bool.not_false, Bool.not_true, Bool.true_or, Bool.false_or, Bool.true_and] <;> rfl
  | .slot i => by
    constructor
    · funext e0; rw [chE.eq_def]; simp only [kE, Bool.not_false, Bool.not_true, Bool.true_or, Bool.false_or, Bool.true_and] <;> rfl
    · funext e0; rw [chT.eq_def]; simp only []; rw [chE.eq_def]; simp only [kE, Bool.not_false, Bool.not_true, Bool.true_or, Bool.false_or, Bool.true_and] <;> rfl
  | .bor i => by
    constructor
    · funext e0; rw [chE.eq_def]; simp only [kE, Bool.not_false, Bool.not_true, Bool.true_or, Bool.false_or, Bool.true_and] <;> rfl
    · funext e0; rw [chT.eq_def]; simp only []; rw [chE.eq_def]; simp only [kE, Bool.not_false, Bool.not_true, Bool.true_or, Bool.false_or, Bool.true_and] <;> rfl
  | .glb g => by
    constructor
    · funext e0; rw [chE.eq_def]; simp only [kE, Bool.not_false, Bool.not_true, Bool.true_or, Bool.false_or, Bool.true_and] <;> rfl
    · funext e0; rw [chT.eq_def]; simp only []; rw [chE.eq_def]; simp only [kE, Bool.not_false, Bool.not_true, Bool.true_or, Bool.false_or, Bool.true_and] <;> rfl
  | .bin op a b => by
    constructor
    · funext e0; rw [chE.eq_def]; simp only [kE, Bool.not_false, Bool.not_true, Bool.true_or, Bool.false_or, Bool.true_and, (kE_f a).1, (kE_f a).2, (kE_f b).1, (kE_f b).2] <;> rfl
    · funext e0; rw [chT.eq_def]; simp only []; rw [chE.eq_def]; simp only [kE, Bool.not_false, Bool.not_true, Bool.true_or, Bool.false_or, Bool.true_and, (kE_f a).1, (kE_f a).2, (kE_f b).1, (kE_f b).2] <;> rfl
  | .neg a => by
    constructor
    · funext e0; rw [chE.eq_def]; simp only [kE, Bool.not_false, Bool.not_true, Bool.true_or, Bool.false_or, Bool.true_and, (kE_f a).1, (kE_f a).2] <;> rfl
    · funext e0; rw [chT.eq_def]; simp only []; rw [chE.eq_def]; simp only [kE, Bool.not_false, Bool.not_true, Bool.true_or, Bool.false_or, Bool.true_and, (kE_f a).1, (kE_f a).2] <;> rfl
  | .not_ a => by
    constructor
    · funext e0; rw [chE.eq_def]; simp only [kE, Bool.not_false, Bool.not_true, Bool.true_or, Bool.false_or, Bool.true_and, (kE_f a).1, (kE_f a).2] <;> rfl
    · funext e0; rw [chT.eq_def]; simp only [kE, Bool.not_false, Bool.not_true, Bool.true_or, Bool.false_or, Bool.true_and, (kE_f a).1, (kE_f a).2] <;> rfl
  | .cmp o a b => by
    constructor
    · funext e0; rw [chE.eq_def]; simp only [kE, Bool.not_false, Bool.not_true, Bool.true_or, Bool.false_or, Bool.true_and, (kE_f a).1, (kE_f a).2, (kE_f b).1, (kE_f b).2] <;> rfl
    · funext e0; rw [chT.eq_def]; simp only [kE, Bool.not_false, Bool.not_true, Bool.true_or, Bool.false_or, Bool.true_and, (kE_f a).1, (kE_f a).2, (kE_f b).1, (kE_f b).2] <;> rfl
  | .cmp2 o p a b e => by
    constructor
    · funext e0; rw [chE.eq_def]; simp only [kE, Bool.not_false, Bool.not_true, Bool.true_or, Bool.false_or, Bool.true_and, (kE_f a).1, (kE_f a).2, (kE_f b).1, (kE_f b).2, (kE_f e).1, (kE_f e).2] <;> rfl
    · funext e0; rw [chT.eq_def]; simp only [kE, Bool.not_false, Bool.not_true, Bool.true_or, Bool.false_or, Bool.true_and, (kE_f a).1, (kE_f a).2, (kE_f b).1, (kE_f b).2, (kE_f e).1, (kE_f e).2] <;> rfl
  | .and_ a b => by
    constructor
    · funext e0; rw [chE.eq_def]; simp only [kE, Bool.not_false, Bool.not_true, Bool.true_or, Bool.false_or, Bool.true_and, (kE_f a).1, (kE_f a).2, (kE_f b).1, (kE_f b).2] <;> rfl
    · funext e0; rw [chT.eq_def]; simp only [kE, Bool.not_false, Bool.not_true, Bool.true_or, Bool.false_or, Bool.true_and, (kE_f a).1, (kE_f a).2, (kE_f b).1, (kE_f b).2] <;> rfl
  | .or_ a b => by
    constructor
    · funext e0; rw [chE.eq_def]; simp only [kE, Bool.not_false, Bool.not_true, Bool.true_or, Bool.false_or, Bool.true_and, (kE_f a).1, (kE_f a).2, (kE_f b).1, (kE_f b).2] <;> rfl
    · funext e0; rw [chT.eq_def]; simp only [kE, Bool.not_false, Bool.not_true, Bool.true_or, Bool.false_or, Bool.true_and, (kE_f a).1, (kE_f a).2, (kE_f b).1, (kE_f b).2] <;> rfl
  | .ite e a b => by
    constructor
    · funext e0; rw [chE.eq_def]; simp only [kE, Bool.not_false, Bool.not_true, Bool.true_or, Bool.false_or, Bool.true_and, (kE_f e).1, (kE_f e).2, (kE_f a).1, (kE_f a).2, (kE_f b).1, (kE_f b).2] <;> rfl
    · funext e0; rw [chT.eq_def]; simp only []; rw [chE.eq_def]; simp only [kE, Bool.not_false, Bool.not_true, Bool.true_or, Bool.false_or, Bool.true_and, (kE_f e).1, (kE_f e).2, (kE_f a).1, (kE_f a).2, (kE_f b).1, (kE_f b).2] <;> rfl
  | .call f as => by
    constructor
    · funext e0; rw [chE.eq_def]; simp only [kE, Bool.not_false, Bool.not_true, Bool.true_or, Bool.false_or, Bool.true_and, kEs_f as] <;> rfl
    · funext e0; rw [chT.eq_def]; simp only []; rw [chE.eq_def]; simp only [kE, Bool.not_false, Bool.not_true, Bool.true_or, Bool.false_or, Bool.true_and, kEs_f as] <;> rfl
  | .callk k as zs => by
    constructor
    · funext e0; rw [chE.eq_def]; simp only [kE, Bool.not_false, Bool.not_true, Bool.true_or, Bool.false_or, Bool.true_and, kEs_f as, kKs_f zs] <;> rfl
    · funext e0; rw [chT.eq_def]; simp only []; rw [chE.eq_def]; simp only [kE, Bool.not_false, Bool.not_true, Bool.true_or, Bool.false_or, Bool.true_and, kEs_f as, kKs_f zs] <;> rfl
  | .mk k as => by
    constructor
    · funext e0; rw [chE.eq_def]; simp only [kE, Bool.not_false, Bool.not_true, Bool.true_or, Bool.false_or, Bool.true_and, kEs_f as] <;> rfl
    · funext e0; rw [chT.eq_def]; simp only []; rw [chE.eq_def]; simp only [kE, Bool.not_false, Bool.not_true, Bool.true_or, Bool.false_or, Bool.true_and, kEs_f as] <;> rfl
  | .mth m o as => by
    constructor
    · funext e0; rw [chE.eq_def]; simp only [kE, Bool.not_false, Bool.not_true, Bool.true_or, Bool.false_or, Bool.true_and, (kE_f o).1, (kE_f o).2, kEs_f as] <;> rfl
    · funext e0; rw [chT.eq_def]; simp only []; rw [chE.eq_def]; simp only [kE, Bool.not_false, Bool.not_true, Bool.true_or, Bool.false_or, Bool.true_and, (kE_f o).1, (kE_f o).2, kEs_f as] <;> rfl
  | .eqm m a b => by
    constructor
    · funext e0; rw [chE.eq_def]; simp only [kE, Bool.not_false, Bool.not_true, Bool.true_or, Bool.false_or, Bool.true_and, (kE_f a).1, (kE_f a).2, (kE_f b).1, (kE_f b).2] <;> rfl
    · funext e0; rw [chT.eq_def]; simp only [kE, Bool.not_false, Bool.not_true, Bool.true_or, Bool.false_or, Bool.true_and, (kE_f a).1, (kE_f a).2, (kE_f b).1, (kE_f b).2] <;> rfl
  | .nem m a b => by
    constructor
    · funext e0; rw [chE.eq_def]; simp only [kE, Bool.not_false, Bool.not_true, Bool.true_or, Bool.false_or, Bool.true_and, (kE_f a).1, (kE_f a).2, (kE_f b).1, (kE_f b).2] <;> rfl
    · funext e0; rw [chT.eq_def]; simp only [kE, Bool.not_false, Bool.not_true, Bool.true_or, Bool.false_or, Bool.true_and, (kE_f a).1, (kE_f a).2, (kE_f b).1, (kE_f b).2] <;> rfl
  | .hcall f as => by
    constructor
    · funext e0; rw [chE.eq_def]; simp only [kE, Bool.not_false, Bool.not_true, Bool.true_or, Bool.false_or, Bool.true_and, kEs_f as] <;> rfl
    · funext e0; rw [chT.eq_def]; simp only []; rw [chE.eq_def]; simp only [kE, Bool.not_false, Bool.not_true, Bool.true_or, Bool.false_or, Bool.true_and, kEs_f as] <;> rfl
  | .att f o => by
    constructor
    · funext e0; rw [chE.eq_def]; simp only [kE, Bool.not_false, Bool.not_true, Bool.true_or, Bool.false_or, Bool.true_and, (kE_f o).1, (kE_f o).2] <;> rfl
    · funext e0; rw [chT.eq_def]; simp only []; rw [chE.eq_def]; simp only [kE, Bool.not_false, Bool.not_true, Bool.true_or, Bool.false_or, Bool.true_and, (kE_f o).1, (kE_f o).2] <;> rfl
  | .idx a b => by
    constructor
    · funext e0; rw [chE.eq_def]; simp only [kE, Bool.not_false, Bool.not_true, Bool.true_or, Bool.false_or, Bool.true_and, (kE_f a).1, (kE_f a).2, (kE_f b).1, (kE_f b).2] <;> rfl
    · funext e0; rw [chT.eq_def]; simp only []; rw [chE.eq_def]; simp only [kE, Bool.not_false, Bool.not_true, Bool.true_or, Bool.false_or, Bool.true_and, (kE_f a).1, (kE_f a).2, (kE_f b).1, (kE_f b).2] <;> rfl
  | .slA a => by
    constructor
    · funext e0; rw [chE.eq_def]; simp only [kE, Bool.not_false, Bool.not_true, Bool.true_or, Bool.false_or, Bool.true_and, (kE_f a).1, (kE_f a).2] <;> rfl
    · funext e0; rw [chT.eq_def]; simp only []; rw [chE.eq_def]; simp only [kE, Bool.not_false, Bool.not_true, Bool.true_or, Bool.false_or, Bool.true_and, (kE_f a).1, (kE_f a).2] <;> rfl
  | .slL a l => by
    constructor
    · funext e0; rw [chE.eq_def]; simp only [kE, Bool.not_false, Bool.not_true, Bool.true_or, Bool.false_or, Bool.true_and, (kE_f a).1, (kE_f a).2, (kE_f l).1, (kE_f l).2] <;> rfl
    · funext e0; rw [chT.eq_def]; simp only []; rw [chE.eq_def]; simp only [kE, Bool.not_false, Bool.not_true, Bool.true_or, Bool.false_or, Bool.true_and, (kE_f a).1, (kE_f a).2, (kE_f l).1, (kE_f l).2] <;> rfl
  | .slH a h => by
    constructor
    · funext e0; rw [chE.eq_def]; simp only [kE, Bool.not_false, Bool.not_true, Bool.true_or, Bool.false_or, Bool.true_and, (kE_f a).1, (kE_f a).2, (kE_f h).1, (kE_f h).2] <;> rfl
    · funext e0; rw [chT.eq_def]; simp only []; rw [chE.eq_def]; simp only [kE, Bool.not_false, Bool.not_true, Bool.true_or, Bool.false_or, Bool.true_and, (kE_f a).1, (kE_f a).2, (kE_f h).1, (kE_f h).2] <;> rfl
  | .slc a l h => by
    constructor
    · funext e0; rw [chE.eq_def]; simp only [kE, Bool.not_false, Bool.not_true, Bool.true_or, Bool.false_or, Bool.true_and, (kE_f a).1, (kE_f a).2, (kE_f l).1, (kE_f l).2, (kE_f h).1, (kE_f h).2] <;> rfl
    · funext e0; rw [chT.eq_def]; simp only []; rw [chE.eq_def]; simp only [kE, Bool.not_false, Bool.not_true, Bool.true_or, Bool.false_or, Bool.true_and, (kE_f a).1, (kE_f a).2, (kE_f l).1, (kE_f l).2, (kE_f h).1, (kE_f h).2] <;> rfl
  | .tup as => by
    constructor
    · funext e0; rw [chE.eq_def]; simp only [kE, Bool.not_false, Bool.not_true, Bool.true_or, Bool.false_or, Bool.true_and, kEs_f as] <;> rfl
    · funext e0; rw [chT.eq_def]; simp only []; rw [chE.eq_def]; simp only [kE, Bool.not_false, Bool.not_true, Bool.true_or, Bool.false_or, Bool.true_and, kEs_f as] <;> rfl
  | .lst as => by
    constructor
    · funext e0; rw [chE.eq_def]; simp only [kE, Bool.not_false, Bool.not_true, Bool.true_or, Bool.false_or, Bool.true_and, kEs_f as] <;> rfl
    · funext e0; rw [chT.eq_def]; simp only []; rw [chE.eq_def]; simp only [kE, Bool.not_false, Bool.not_true, Bool.true_or, Bool.false_or, Bool.true_and, kEs_f as] <;> rfl
  | .lstR as => by
    constructor
    · funext e0; rw [chE.eq_def]; simp only [kE, Bool.not_false, Bool.not_true, Bool.true_or, Bool.false_or, Bool.true_and, kEs_f as] <;> rfl
    · funext e0; rw [chT.eq_def]; simp only []; rw [chE.eq_def]; simp only [kE, Bool.not_false, Bool.not_true, Bool.true_or, Bool.false_or, Bool.true_and, kEs_f as] <;> rfl
  | .dctR ks as => by
    constructor
    · funext e0; rw [chE.eq_def]; simp only [kE, Bool.not_false, Bool.not_true, Bool.true_or, Bool.false_or, Bool.true_and, kVs_f as] <;> rfl
    · funext e0; rw [chT.eq_def]; simp only []; rw [chE.eq_def]; simp only [kE, Bool.not_false, Bool.not_true, Bool.true_or, Bool.false_or, Bool.true_and, kVs_f as] <;> rfl
  | .bi b as => by
    constructor
    · funext e0; rw [chE.eq_def]; simp only [kE, Bool.not_false, Bool.not_true, Bool.true_or, Bool.false_or, Bool.true_and, kEs_f as] <;> rfl
    · funext e0; rw [chT.eq_def]; simp only []; rw [chE.eq_def]; simp only [kE, Bool.not_false, Bool.not_true, Bool.true_or, Bool.false_or, Bool.true_and, kEs_f as] <;> rfl
  | .bm b o as => by
    constructor
    · funext e0; rw [chE.eq_def]; simp only [kE, Bool.not_false, Bool.not_true, Bool.true_or, Bool.false_or, Bool.true_and, (kE_f o).1, (kE_f o).2, kEs_f as] <;> rfl
    · funext e0; rw [chT.eq_def]; simp only []; rw [chE.eq_def]; simp only [kE, Bool.not_false, Bool.not_true, Bool.true_or, Bool.false_or, Bool.true_and, (kE_f o).1, (kE_f o).2, kEs_f as] <;> rfl
  | .isi a ts => by
    constructor
    · funext e0; rw [chE.eq_def]; simp only [kE, Bool.not_false, Bool.not_true, Bool.true_or, Bool.false_or, Bool.true_and, (kE_f a).1, (kE_f a).2] <;> rfl
    · funext e0; rw [chT.eq_def]; simp only []; rw [chE.eq_def]; simp only [kE, Bool.not_false, Bool.not_true, Bool.true_or, Bool.false_or, Bool.true_and, (kE_f a).1, (kE_f a).2] <;> rfl
  | .exf i f => by
    constructor
    · funext e0; rw [chE.eq_def]; simp only [kE, Bool.not_false, Bool.not_true, Bool.true_or, Bool.false_or, Bool.true_and] <;> rfl
    · funext e0; rw [chT.eq_def]; simp only []; rw [chE.eq_def]; simp only [kE, Bool.not_false, Bool.not_true, Bool.true_or, Bool.false_or, Bool.true_and] <;> rfl
  | .exi i ts => by
    constructor
    · funext e0; rw [chE.eq_def]; simp only [kE, Bool.not_false, Bool.not_true, Bool.true_or, Bool.false_or, Bool.true_and] <;> rfl
    · funext e0; rw [chT.eq_def]; simp only []; rw [chE.eq_def]; simp only [kE, Bool.not_false, Bool.not_true, Bool.true_or, Bool.false_or, Bool.true_and] <;> rfl
  | .kdx g a => by
    constructor
    · funext e0; rw [chE.eq_def]; simp only [kE, Bool.not_false, Bool.not_true, Bool.true_or, Bool.false_or, Bool.true_and, (kE_f a).1, (kE_f a).2] <;> rfl
    · funext e0; rw [chT.eq_def]; simp only []; rw [chE.eq_def]; simp only [kE, Bool.not_false, Bool.not_true, Bool.true_or, Bool.false_or, Bool.true_and, (kE_f a).1, (kE_f a).2] <;> rfl
  | .prp m o => by
    constructor
    · funext e0; rw [chE.eq_def]; simp only [kE, Bool.not_false, Bool.not_true, Bool.true_or, Bool.false_or, Bool.true_and, (kE_f o).1, (kE_f o).2] <;> rfl
    · funext e0; rw [chT.eq_def]; simp only []; rw [chE.eq_def]; simp only [kE, Bool.not_false, Bool.not_true, Bool.true_or, Bool.false_or, Bool.true_and, (kE_f o).1, (kE_f o).2] <;> rfl
  | .comp is it cond b => by
    constructor
    · funext e0; rw [chE.eq_def]; simp only [kE, Bool.not_false, Bool.not_true, Bool.true_or, Bool.false_or, Bool.true_and, (kE_f cond).1, (kE_f cond).2, (kE_f b).1, (kE_f b).2, kJ_f it] <;> rfl
    · funext e0; rw [chT.eq_def]; simp only []; rw [chE.eq_def]; simp only [kE, Bool.not_false, Bool.not_true, Bool.true_or, Bool.false_or, Bool.true_and, (kE_f cond).1, (kE_f cond).2, (kE_f b).1, (kE_f b).2, kJ_f it] <;> rfl
theorem kEs_f : ∀ (es : Es) {sc : Scp}, kEs n P N q sc es = chEs n P N q sc es
  | .nil => by funext l; cases l <;> simp only [kEs, chEs]
  | .cons e es => by funext l; cases l <;> simp only [kEs, chEs, (kE_f e).1, kEs_f es]
  | .conB e es => by funext l; cases l <;> simp only [kEs, chEs, (kE_f e).1, kEs_f es]
  | .star e es => by
    funext l
    cases l with
    | nil => simp only [kEs, chEs]
    | cons a l => cases a <;> simp only [kEs, chEs, (kE_f e).1, kEs_f es]
theorem kKs_f : ∀ (es : Es) {sc : Scp}, kKs n P N q sc es = chKs n P N q sc es
  | .nil => by funext l; cases l <;> simp only [kKs, chKs]
  | .cons e es => by
    funext l
    cases l with
    | nil => simp only [kKs, chKs]
    | cons a l =>
      obtain ⟨a1, a2, a3⟩ := a
      cases a1 <;> simp only [kKs, chKs, (kE_f e).1, kKs_f es]
  | .conB e es => by funext l; simp only [kKs, chKs]
  | .star e es => by funext l; simp only [kKs, chKs]
theorem kVs_f : ∀ (es : Es) {sc : Scp}, kVs n P N q sc es = chVs n P N q sc es
  | .nil => by funext l; cases l <;> simp only [kVs, chVs]
  | .cons e es => by funext l; cases l <;> simp only [kVs, chVs, (kE_f e).1, kVs_f es]
  | .conB e es => by funext l; simp only [kVs, chVs]
  | .star e es => by funext l; simp only [kVs, chVs]
theorem kJ_f : ∀ (it : It) {sc : Scp}, kJ n P N q sc it = chJ n P N q sc it
  | .seq e => by funext l; simp only [kJ, chJ, (kE_f e).1]
  | .rng as => by funext l; rw [chJ.eq_def]; simp only [kJ, kEs_f as] <;> rfl
  | .lent _ => by funext l; simp only [kJ, chJ]
  | .enum _ => by funext l; simp only [kJ, chJ]
  | .zip _ _ => by funext l; simp only [kJ, chJ]
  | .rev _ => by funext l; simp only [kJ, chJ]
  | .items _ => by funext l; simp only [kJ, chJ]
end
end
/-- as a new list -/
def kN (n : Nz) (P : Prg) (N : List Str) (q : Bool) (sc : Scp) (e : E) (e' : PySem.Expr) : Bool := (match e with
  | .lst _ | .bin .add _ _ | .bin .mul _ _ | .slA _ | .slL _ _ | .slH _ _ | .slc _ _ _ | .bi .list_ _ => true
  | _ => false) && kE n P N q sc e false e'

def kI (n : Nz) (P : Prg) (N : List Str) (q : Bool) (sc : Scp) (tg : PySem.Expr) : It → PySem.Expr → Bool
  | .seq e, e' => notSet e' && !isB e && kE n P N q sc e false e'
  | .lent i, e' => (match e' with
    | .Name x _ => nmB N sc i x
    | _ => false)
  | .rng as, e' => (match e' with
    | .Call (.Name x _) [a] [] _ => glB sc x && x == ("range" : Str) && noB as && noS as && cnt as == 1 && plainB a && kEs n P N q sc as [a]
    | .Call (.Name x _) [a, b] [] _ => glB sc x && x == ("range" : Str) && noB as && noS as && cnt as == 2 && plainB a && plainB b && kEs n P N q sc as [a, b]
    | _ => false)
  | .enum e, e' => (match tg, e' with
    | .Tuple _ _ _, .Call (.Name x _) [a] [] _ => glB sc x && x == ("enumerate" : Str) && noB (.cons e .nil) && plainB a && kEs n P N q sc (.cons e .nil) [a]
    | _, _ => false)
  | .zip _ _, _ => false
  | .rev _, _ => false
  | .items _, _ => false

def isFz : S → Bool
  | .frz _ => true
  | _ => false
mutual
def kS (n : Nz) (P : Prg) (N : List Str) (sc : Scp) : S → Bool → PySem.Stmt → Bool
  | .asg i e, q, st => (match st with
    | .Assign [.Name x p] e' _ => ixB N i x && (celB sc x || (locB sc x && (noLc e' || lcB sc x p e'))) && !isB e && kE n P N q sc e false e'
    | _ => false)
  | .own i e, q, st => (match st with
    | .Assign [.Name x _] e' _ => ixB N i x && locB sc x && noLc e' && kN n P N q sc e e'
    | _ => false)
  | .unp is e, q, st => (match st with
    | .Assign [.Tuple es _ _] e' _ => q && tgsB N sc is es && noLc e' && noTup e' && !isB e && kE n P N q sc e false e'
    | _ => false)
  | .par _ _ _ _, q, st => false
  | .sat o f e, q, st => (match st with
    | .Assign [.Attribute o' x _] e' _ => x == n.an f && noLc e' && !isB o && kE n P N q sc o false o' && !isB e && kE n P N q sc e false e'
    | _ => false)
  | .aat o f op e, q, st => (match st with
    | .AugAssign (.Attribute o' x _) o2 e' _ => x == n.an f && opB op o2 && !isB o && kE n P N q sc o false o' && !isB e && kE n P N q sc e false e'
    | _ => false)
  | .sit o i e, q, st => (match st with
    | .Assign [.Subscript o' i' _] e' _ => noSlc i' && noLc e' && !isB o && kE n P N q sc o false o' && !isB i && kE n P N q sc i false i' && !isB e && kE n P N q sc e false e'
    | _ => false)
  | .osit j i e, q, st => (match st with
    | .Assign [.Subscript (.Name x _) i' _] e' _ => nmB N sc j x && noSlc i' && noLc e' && !isB i && kE n P N q sc i false i' && !isB e && kE n P N q sc e false e'
    | _ => false)
  | .aug _ _ _, q, st => false
  | .app o e, q, st => (match st with
    | .Expr (.Call (.Attribute o' x apos) [a] [] pos) _ => x == ("append" : Str) && baseB o' && apos.endLine == pos.line && plainB a && !isB o && kE n P N q sc o false o' && !isB e && kE n P N q sc e false a
    | _ => false)
  | .oapp j e, q, st => (match st with
    | .Expr (.Call (.Attribute (.Name y _) x apos) [a] [] pos) _ => x == ("append" : Str) && nmB N sc j y && apos.endLine == pos.line && plainB a && !isB e && kE n P N q sc e false a
    | _ => false)
  | .ext _ _, q, st => false
  | .oext j e, q, st => (match st with
    | .Expr (.Call (.Attribute (.Name y _) x apos) [a] [] pos) _ => x == ("extend" : Str) && nmB N sc j y && apos.endLine == pos.line && plainB a && !isB e && kE n P N q sc e false a
    | _ => false)
  | .ex e, q, st => (match st with
    | .Expr e' _ => noLc e' && kE n P N q sc e false e'
    | _ => false)
  | .ife e s t, q, st => (match st with
    | .If e' s' t' _ => kE n P N q sc e true e' && kSs n P N sc s q s' && kSs n P N sc t q t'
    | _ => false)
  | .for_ T it b, q, st => (match T, st with
    | .tp is, .For tg it' b' [] _ => q && tgtB N sc is tg && notSet it' && kI n P N q sc tg it it' && kSs n P N sc b q b'
    | _, _ => false)
  | .while_ e b, q, st => (match st with
    | .While e' b' [] _ => q && kE n P N q sc e true e' && kSs n P N sc b q b'
    | _ => false)
  | .ret e, q, st => (match st with
    | .Return (some e') _ => !isB e && kE n P N q sc e false e'
    | _ => false)
  | .retN, q, st => (match st with
    | .Return none _ => true
    | _ => false)
  | .raise_ k e, q, st => (match st with
    | .Raise (some (.Call (.Name x _) [e'] [] _)) none _ => q && glB sc x && n.rn k == some x && plainB e' && !isB e && kE n P N q sc e false e'
    | _ => false)
  | .tryE b kc i h, q, st => (match st with
    | .Try body [.ExceptHandler (some (.Name x _)) (some nm) (b0 :: suite) _] [] [] _ => q && glB sc x && n.en kc == some x && ixB N i nm && locB sc nm && kSs n P N sc b true body && kSs n P N sc h false (b0 :: suite)
    | _ => false)
  | .stuck, q, st => true
  | .pass_, q, st => (match st with
    | .Pass _ => true
    | .Expr (.Constant (.str _) _ _) _ => true
    | _ => false)
  | .brk, q, st => (match st with
    | .Break _ => true
    | _ => false)
  | .cnt, q, st => (match st with
    | .Continue _ => true
    | _ => false)
  | .frz _, q, st => false
def kSs (n : Nz) (P : Prg) (N : List Str) (sc : Scp) : Ss → Bool → List PySem.Stmt → Bool
  | .nil, q, sts => sts.isEmpty
  | .cons s ss, q, sts => bif isFz s then kSs n P N sc ss q sts else (match sts with
    | [] => false
    | st :: sts => kS n P N sc s q st && kSs n P N sc ss q sts)
end

section
variable {n : Nz} {P : Prg} {N : List Str} {sc : Scp}
theorem kN_f (q : Bool) (e : E) (e' : PySem.Expr) : kN n P N q sc e e' = chN n P N q sc e e' := by unfold kN chN; rw [(kE_f e).1]; try rfl
theorem kI_f (q : Bool) (tg : PySem.Expr) (i : It) (e' : PySem.Expr) : kI n P N q sc tg i e' = chI n P N q sc tg i e' := by
  cases i <;> simp only [kI, chI, (kE_f _).1, kEs_f] <;> rfl
mutual
theorem kS_f : ∀ (s : S) (q : Bool) (st : PySem.Stmt), kS n P N sc s q st = chS n P N sc q s st
  | .asg i e => fun q st => by simp only [kS, chS, (kE_f _).1, (kE_f _).2, kN_f, kI_f] <;> rfl
  | .own i e => fun q st => by simp only [kS, chS, (kE_f _).1, (kE_f _).2, kN_f, kI_f] <;> rfl
  | .unp is e => fun q st => by simp only [kS, chS, (kE_f _).1, (kE_f _).2, kN_f, kI_f] <;> rfl
  | .par _ _ _ _ => fun q st => by simp only [kS, chS, (kE_f _).1, (kE_f _).2, kN_f, kI_f] <;> rfl
  | .sat o f e => fun q st => by simp only [kS, chS, (kE_f _).1, (kE_f _).2, kN_f, kI_f] <;> rfl
  | .aat o f op e => fun q st => by simp only [kS, chS, (kE_f _).1, (kE_f _).2, kN_f, kI_f] <;> rfl
  | .sit o i e => fun q st => by simp only [kS, chS, (kE_f _).1, (kE_f _).2, kN_f, kI_f] <;> rfl
  | .osit j i e => fun q st => by simp only [kS, chS, (kE_f _).1, (kE_f _).2, kN_f, kI_f] <;> rfl
  | .aug _ _ _ => fun q st => by simp only [kS, chS, (kE_f _).1, (kE_f _).2, kN_f, kI_f] <;> rfl
  | .app o e => fun q st => by simp only [kS, chS, (kE_f _).1, (kE_f _).2, kN_f, kI_f] <;> rfl
  | .oapp j e => fun q st => by simp only [kS, chS, (kE_f _).1, (kE_f _).2, kN_f, kI_f] <;> rfl
  | .ext _ _ => fun q st => by simp only [kS, chS, (kE_f _).1, (kE_f _).2, kN_f, kI_f] <;> rfl
  | .oext j e => fun q st => by simp only [kS, chS, (kE_f _).1, (kE_f _).2, kN_f, kI_f] <;> rfl
  | .ex e => fun q st => by simp only [kS, chS, (kE_f _).1, (kE_f _).2, kN_f, kI_f] <;> rfl
  | .ife e s t => fun q st => by simp only [kS, chS, (kE_f _).1, (kE_f _).2, kN_f, kI_f, kSs_f s, kSs_f t] <;> rfl
  | .for_ T it b => fun q st => by cases T <;> cases st <;> simp only [kS, chS, kI_f, kSs_f b] <;> rfl
  | .while_ e b => fun q st => by simp only [kS, chS, (kE_f _).1, (kE_f _).2, kN_f, kI_f, kSs_f b] <;> rfl
  | .ret e => fun q st => by simp only [kS, chS, (kE_f _).1, (kE_f _).2, kN_f, kI_f] <;> rfl
  | .retN => fun q st => by simp only [kS, chS, (kE_f _).1, (kE_f _).2, kN_f, kI_f] <;> rfl
  | .raise_ k e => fun q st => by simp only [kS, chS, (kE_f _).1, (kE_f _).2, kN_f, kI_f] <;> rfl
  | .tryE b kc i h => fun q st => by simp only [kS, chS, (kE_f _).1, (kE_f _).2, kN_f, kI_f, kSs_f b, kSs_f h] <;> rfl
  | .stuck => fun q st => by simp only [kS, chS, (kE_f _).1, (kE_f _).2, kN_f, kI_f] <;> rfl
  | .pass_ => fun q st => by simp only [kS, chS, (kE_f _).1, (kE_f _).2, kN_f, kI_f] <;> rfl
  | .brk => fun q st => by simp only [kS, chS, (kE_f _).1, (kE_f _).2, kN_f, kI_f] <;> rfl
  | .cnt => fun q st => by simp only [kS, chS, (kE_f _).1, (kE_f _).2, kN_f, kI_f] <;> rfl
  | .frz _ => fun q st => by simp only [kS, chS, (kE_f _).1, (kE_f _).2, kN_f, kI_f] <;> rfl
theorem kSs_f : ∀ (ss : Ss) (q : Bool) (sts : List PySem.Stmt), kSs n P N sc ss q sts = chSs n P N sc q ss sts
  | .nil => fun q sts => by simp only [kSs, chSs]
  | .cons s ss => fun q sts => by
    cases s <;> simp only [kSs, chSs, isFz, cond_true, cond_false, kS_f, kSs_f ss] <;> rfl
end
end
/-- stB with it -/
def stK (t : Tb) (f : Nat) (D : Df) : Bool :=
  decide (D.d.scope.kind = .function) && !D.d.scope.isCoroutine && !D.d.scope.isGenerator && decide D.N.Nodup && decide (D.N.take D.ps.length = D.ps) && D.ps.all (fun x => D.d.scope.names.lookup x == some .local || D.d.scope.names.lookup x == some .cell) &&
  D.d.scope.names.all (fun y => !(y.2 == .free)) && decide (D.ps.length ≤ D.N.length) && kSs t.n t.P D.N D.d.scope.names D.ss (!t.P.hot f) D.d.body
theorem stK_eq {t : Tb} {f : Nat} {D : Df} : stK t f D = stB t f D := by unfold stK stB; rw [kSs_f]
theorem stK_all {t : Tb} (h : allI t.dfs (stK t) = true) : allI t.dfs (stB t) = true := by
  have e : stK t = stB t := funext fun f => funext fun D => stK_eq
  rwa [e] at h
end Z

set_option Elab.async false
set_option linter.all false
set_option autoImplicit false
set_option maxRecDepth 100000
set_option maxHeartbeats 4000000
namespace Z

/-! ### what a run keeps: for the plain proofs -/
/-- a place that simp does not open -/
class Fx {α : Type} (q : α) : Type where
instance {α : Type} (q : α) : Fx q := ⟨⟩
def WR0 (Q : D → Sto → Prop) (X : Nat → D → Sto → Prop) : Res → Prop
  | .ok d M => Q d M
  | .exc k d M => X k d M
  | .bad => False
structure WR (Q : D → Sto → Prop) [Fx Q] (X : Nat → D → Sto → Prop) [Fx X] (r : Res) : Prop where
  h : WR0 Q X r
def WRs0 (Q : List D → Sto → Prop) (X : Nat → D → Sto → Prop) : Ress → Prop
  | .ok d M => Q d M
  | .exc k d M => X k d M
  | .bad => False
structure WRs (Q : List D → Sto → Prop) [Fx Q] (X : Nat → D → Sto → Prop) [Fx X] (r : Ress) : Prop where
  h : WRs0 Q X r
def WS0 (F : SRes → Prop) : SRes → Prop
  | .bad => False
  | .nx σ M => F (.nx σ M)
  | .rt d M => F (.rt d M)
  | .bk σ M => F (.bk σ M)
  | .ct σ M => F (.ct σ M)
  | .exc k d σ M => F (.exc k d σ M)
structure WS (F : SRes → Prop) [Fx F] (r : SRes) : Prop where
  h : WS0 F r
def kB (F : SRes → Prop) (f : List SV → Sto → SRes) : SRes → Prop
  | .nx σ M => WS F (f σ M)
  | r => F r
def eE (Q : D → Sto → Prop) (X : Nat → D → Sto → Prop) : SRes → Prop
  | .rt d M => Q d M
  | .nx _ M => Q .non M
  | .exc k d _ M => X k d M
  | _ => False
/-- a loop's turn -/
def lK (F : SRes → Prop) (I : List SV → Sto → Prop) : SRes → Prop
  | .nx σ M => I σ M
  | .ct σ M => I σ M
  | .bk σ M => F (.nx σ M)
  | r => F r
def tK (F : SRes → Prop) (P : Prg) (cl : Call) (kc i : Nat) (h : Ss) : SRes → Prop
  | .exc k d σ1 M1 => WS F ((P.exm k kc).elim .bad fun t => if t then (match evSs P cl h (σ1.set i (.exc k d)) M1 with
      | .nx σ2 M2 => if noX (σ2.set i .non) then .nx (σ2.set i .non) M2 else .bad
      | .rt d M2 => .rt d M2
      | _ => .bad) else .exc k d σ1 M1)
  | r => F r
def hK (F : SRes → Prop) (i : Nat) : SRes → Prop
  | .nx σ2 M2 => noX (σ2.set i .non) = true ∧ F (.nx (σ2.set i .non) M2)
  | .rt d M2 => F (.rt d M2)
  | _ => False
section
variable {Q : D → Sto → Prop} {X : Nat → D → Sto → Prop} {F : SRes → Prop} {P : Prg} {cl : Call}
theorem z2q {r r' : Res} (h : r = r') : WR Q X r = WR Q X r' := by rw [h]
theorem z13 {Q : List D → Sto → Prop} {r r' : Ress} (h : r = r') : WRs Q X r = WRs Q X r' := by rw [h]
theorem z1e {r r' : SRes} (h : r = r') : WS F r = WS F r' := by rw [h]
theorem rb_cg {r r' : Res} {f : D → Sto → Res} (h : r = r') : r.bind f = r'.bind f := by rw [h]
theorem rbs_cg {r r' : Res} {f : D → Sto → Ress} (h : r = r') : r.binds f = r'.binds f := by rw [h]
theorem rsb_cg {r r' : Ress} {f : List D → Sto → Res} (h : r = r') : r.bind f = r'.bind f := by rw [h]
theorem rsbs_cg {r r' : Ress} {f : List D → Sto → Ress} (h : r = r') : r.binds f = r'.binds f := by rw [h]
theorem rst_cg {r r' : Res} {σ : List SV} {f : D → Sto → SRes} (h : r = r') : r.st σ f = r'.st σ f := by rw [h]
theorem rsst_cg {r r' : Ress} {σ : List SV} {f : List D → Sto → SRes} (h : r = r') : r.st σ f = r'.st σ f := by rw [h]
theorem sb_cg {r r' : SRes} {f : List SV → Sto → SRes} (h : r = r') : r.bind f = r'.bind f := by rw [h]
theorem el_cg {α β : Type} {o o' : Option α} {b : β} {f : α → β} (h : o = o') : o.elim b f = o'.elim b f := by rw [h]
theorem z70 {f : List SV → Sto → SRes} {r r' : SRes} (h : r = r') : kB F f r = kB F f r' := by rw [h]
theorem z2d {r r' : SRes} (h : r = r') : eE Q X r = eE Q X r' := by rw [h]
theorem z10 (d : D) (M : Sto) : WR Q X (.ok d M) = Q d M := propext ⟨fun h => h.h, fun h => ⟨h⟩⟩
theorem za (k : Nat) (d : D) (M : Sto) : WR Q X (.exc k d M) = X k d M := propext ⟨fun h => h.h, fun h => ⟨h⟩⟩
theorem z0 : WR Q X .bad = False := propext ⟨fun h => h.h, fun h => ⟨h⟩⟩
theorem z1a {Q : List D → Sto → Prop} (d : List D) (M : Sto) : WRs Q X (.ok d M) = Q d M := propext ⟨fun h => h.h, fun h => ⟨h⟩⟩
theorem z17 {Q : List D → Sto → Prop} (k : Nat) (d : D) (M : Sto) : WRs Q X (.exc k d M) = X k d M := propext ⟨fun h => h.h, fun h => ⟨h⟩⟩
theorem z11 {Q : List D → Sto → Prop} : WRs Q X .bad = False := propext ⟨fun h => h.h, fun h => ⟨h⟩⟩
theorem z28 (σ : List SV) (M : Sto) : WS F (.nx σ M) = F (.nx σ M) := propext ⟨fun h => h.h, fun h => ⟨h⟩⟩
theorem z29 (d : D) (M : Sto) : WS F (.rt d M) = F (.rt d M) := propext ⟨fun h => h.h, fun h => ⟨h⟩⟩
theorem z1d (σ : List SV) (M : Sto) : WS F (.bk σ M) = F (.bk σ M) := propext ⟨fun h => h.h, fun h => ⟨h⟩⟩
theorem z1f (σ : List SV) (M : Sto) : WS F (.ct σ M) = F (.ct σ M) := propext ⟨fun h => h.h, fun h => ⟨h⟩⟩
theorem z23 (k : Nat) (d : D) (σ : List SV) (M : Sto) : WS F (.exc k d σ M) = F (.exc k d σ M) := propext ⟨fun h => h.h, fun h => ⟨h⟩⟩
theorem z1b : WS F .bad = False := propext ⟨fun h => h.h, fun h => ⟨h⟩⟩
theorem z9 (r : Res) : WR Q X r = WR0 Q X r := propext ⟨fun h => h.h, fun h => ⟨h⟩⟩
theorem z16 {Q : List D → Sto → Prop} (r : Ress) : WRs Q X r = WRs0 Q X r := propext ⟨fun h => h.h, fun h => ⟨h⟩⟩
theorem z22 (r : SRes) : WS F r = WS0 F r := propext ⟨fun h => h.h, fun h => ⟨h⟩⟩
theorem z1q (r : Res) (f : D → Sto → Res) : WR Q X (r.bind f) = WR (fun d M => WR Q X (f d M)) X r := by cases r <;> simp only [z9, z16, z22, WR0, WRs0, WS0, Res.bind, Ress.bind, Res.binds, Ress.binds, Res.st, Ress.st, SRes.bind, endZ, eE, kB]
theorem z1q' (r : Ress) (f : List D → Sto → Res) : WR Q X (r.bind f) = WRs (fun d M => WR Q X (f d M)) X r := by cases r <;> simp only [z9, z16, z22, WR0, WRs0, WS0, Res.bind, Ress.bind, Res.binds, Ress.binds, Res.st, Ress.st, SRes.bind, endZ, eE, kB]
theorem z12 {Q : List D → Sto → Prop} (r : Res) (f : D → Sto → Ress) : WRs Q X (r.binds f) = WR (fun d M => WRs Q X (f d M)) X r := by cases r <;> simp only [z9, z16, z22, WR0, WRs0, WS0, Res.bind, Ress.bind, Res.binds, Ress.binds, Res.st, Ress.st, SRes.bind, endZ, eE, kB]
theorem z12' {Q : List D → Sto → Prop} (r : Ress) (f : List D → Sto → Ress) : WRs Q X (r.binds f) = WRs (fun d M => WRs Q X (f d M)) X r := by cases r <;> simp only [z9, z16, z22, WR0, WRs0, WS0, Res.bind, Ress.bind, Res.binds, Ress.binds, Res.st, Ress.st, SRes.bind, endZ, eE, kB]
theorem z2a (r : Res) (σ : List SV) (f : D → Sto → SRes) : WS F (r.st σ f) = WR (fun d M => WS F (f d M)) (fun k d M => F (.exc k d σ M)) r := by cases r <;> simp only [z9, z16, z22, WR0, WRs0, WS0, Res.bind, Ress.bind, Res.binds, Ress.binds, Res.st, Ress.st, SRes.bind, endZ, eE, kB]
theorem z2a' (r : Ress) (σ : List SV) (f : List D → Sto → SRes) : WS F (r.st σ f) = WRs (fun d M => WS F (f d M)) (fun k d M => F (.exc k d σ M)) r := by cases r <;> simp only [z9, z16, z22, WR0, WRs0, WS0, Res.bind, Ress.bind, Res.binds, Ress.binds, Res.st, Ress.st, SRes.bind, endZ, eE, kB]
theorem z1c (r : SRes) (f : List SV → Sto → SRes) : WS F (r.bind f) = WS (kB F f) r := by cases r <;> simp only [z9, z16, z22, WR0, WRs0, WS0, Res.bind, Ress.bind, Res.binds, Ress.binds, Res.st, Ress.st, SRes.bind, endZ, eE, kB]
theorem z73 (f : List SV → Sto → SRes) (σ : List SV) (M : Sto) : kB F f (.nx σ M) = WS F (f σ M) := rfl
theorem z74 (f : List SV → Sto → SRes) (d : D) (M : Sto) : kB F f (.rt d M) = F (.rt d M) := rfl
theorem z6f (f : List SV → Sto → SRes) (σ : List SV) (M : Sto) : kB F f (.bk σ M) = F (.bk σ M) := rfl
theorem z71 (f : List SV → Sto → SRes) (σ : List SV) (M : Sto) : kB F f (.ct σ M) = F (.ct σ M) := rfl
theorem z72 (f : List SV → Sto → SRes) (k : Nat) (d : D) (σ : List SV) (M : Sto) : kB F f (.exc k d σ M) = F (.exc k d σ M) := rfl
theorem z31 (d : D) (M : Sto) : eE Q X (.rt d M) = Q d M := rfl
theorem z30 (σ : List SV) (M : Sto) : eE Q X (.nx σ M) = Q .non M := rfl
theorem z2f (k : Nat) (d : D) (σ : List SV) (M : Sto) : eE Q X (.exc k d σ M) = X k d M := rfl
theorem z2c (σ : List SV) (M : Sto) : eE Q X (.bk σ M) = False := rfl
theorem z2e (σ : List SV) (M : Sto) : eE Q X (.ct σ M) = False := rfl
theorem z78 {I : List SV → Sto → Prop} (σ : List SV) (M : Sto) : lK F I (.nx σ M) = I σ M := rfl
theorem z76 {I : List SV → Sto → Prop} (σ : List SV) (M : Sto) : lK F I (.ct σ M) = I σ M := rfl
theorem z75 {I : List SV → Sto → Prop} (σ : List SV) (M : Sto) : lK F I (.bk σ M) = F (.nx σ M) := rfl
theorem z79 {I : List SV → Sto → Prop} (d : D) (M : Sto) : lK F I (.rt d M) = F (.rt d M) := rfl
theorem z77 {I : List SV → Sto → Prop} (k : Nat) (d : D) (σ : List SV) (M : Sto) : lK F I (.exc k d σ M) = F (.exc k d σ M) := rfl
theorem z6 {α : Type} (o : Option α) (f : α → Res) : WR Q X (o.elim .bad f) = ∃ a, o = some a ∧ WR Q X (f a) := by
  cases o with
  | none => simp [z9, WR0]
  | some a => simp
theorem z14 {Q : List D → Sto → Prop} {α : Type} (o : Option α) (f : α → Ress) : WRs Q X (o.elim .bad f) = ∃ a, o = some a ∧ WRs Q X (f a) := by
  cases o with
  | none => simp [z16, WRs0]
  | some a => simp
theorem z20 {α : Type} (o : Option α) (f : α → SRes) : WS F (o.elim .bad f) = ∃ a, o = some a ∧ WS F (f a) := by
  cases o with
  | none => simp [z22, WS0]
  | some a => simp
structure IfO (c p : Prop) : Prop where
  h : c
  p : p
theorem IfO_true {p : Prop} : IfO True p = p := propext ⟨fun h => h.p, fun h => ⟨trivial, h⟩⟩
theorem IfO_false {p : Prop} : IfO False p = False := propext ⟨fun h => h.h, fun h => h.elim⟩
theorem IfO_eq {c p : Prop} : IfO c p = (c ∧ p) := propext ⟨fun h => ⟨h.h, h.p⟩, fun h => ⟨h.1, h.2⟩⟩
theorem ze {c : Prop} [Decidable c] (A : Res) : WR Q X (if c then A else .bad) = IfO c (WR Q X A) := by
  rw [IfO_eq]
  by_cases h : c <;> simp [h, z9, WR0]
theorem z19 {Q : List D → Sto → Prop} {c : Prop} [Decidable c] (A : Ress) : WRs Q X (if c then A else .bad) = IfO c (WRs Q X A) := by
  rw [IfO_eq]
  by_cases h : c <;> simp [h, z16, WRs0]
theorem z26 {c : Prop} [Decidable c] (A : SRes) : WS F (if c then A else .bad) = IfO c (WS F A) := by
  rw [IfO_eq]
  by_cases h : c <;> simp [h, z22, WS0]
theorem zb {c : Prop} [Decidable c] (A B : Res) : WR Q X (if c then A else B) = ((c → WR Q X A) ∧ (¬ c → WR Q X B)) := by
  by_cases h : c <;> simp [h]
theorem z18 {Q : List D → Sto → Prop} {c : Prop} [Decidable c] (A B : Ress) : WRs Q X (if c then A else B) = ((c → WRs Q X A) ∧ (¬ c → WRs Q X B)) := by
  by_cases h : c <;> simp [h]
theorem z25 {c : Prop} [Decidable c] (A B : SRes) : WS F (if c then A else B) = ((c → WS F A) ∧ (¬ c → WS F B)) := by
  by_cases h : c <;> simp [h]
theorem zc {c : Prop} [Decidable c] (A : Res) (x : D) (M : Sto) : WR Q X (if c then A else .ok x M) = ((c → WR Q X A) ∧ (¬ c → Q x M)) := by
  by_cases h : c <;> simp [h, z9, WR0]
theorem zd {c : Prop} [Decidable c] (A : Res) (x : D) (M : Sto) : WR Q X (if c then .ok x M else A) = ((c → Q x M) ∧ (¬ c → WR Q X A)) := by
  by_cases h : c <;> simp [h, z9, WR0]
theorem zf {c : Prop} [Decidable c] (a b : E) (σ : List SV) (M : Sto) : WR Q X (if c then evE P cl a σ M else evE P cl b σ M) = ((c → WR Q X (evE P cl a σ M)) ∧ (¬ c → WR Q X (evE P cl b σ M))) := by
  by_cases h : c <;> simp [h]
theorem z27 {c : Prop} [Decidable c] (a b : Ss) (σ : List SV) (M : Sto) : WS F (if c then evSs P cl a σ M else evSs P cl b σ M) = ((c → WS F (evSs P cl a σ M)) ∧ (¬ c → WS F (evSs P cl b σ M))) := by
  by_cases h : c <;> simp [h]
theorem z8 (r : SRes) : WR Q X (endZ r) = WS (eE Q X) r := by cases r <;> simp only [z9, z16, z22, WR0, WRs0, WS0, Res.bind, Ress.bind, Res.binds, Ress.binds, Res.st, Ress.st, SRes.bind, endZ, eE, kB]
theorem bnd_ok (d : D) (M : Sto) (f : D → Sto → Res) : (Res.ok d M).bind f = f d M := rfl
theorem binds_ok (d : D) (M : Sto) (f : D → Sto → Ress) : (Res.ok d M).binds f = f d M := rfl
theorem sbind_ok (d : List D) (M : Sto) (f : List D → Sto → Res) : (Ress.ok d M).bind f = f d M := rfl
theorem sbinds_ok (d : List D) (M : Sto) (f : List D → Sto → Ress) : (Ress.ok d M).binds f = f d M := rfl
theorem st_ok (d : D) (M : Sto) (σ : List SV) (f : D → Sto → SRes) : (Res.ok d M).st σ f = f d M := rfl
theorem sst_ok (d : List D) (M : Sto) (σ : List SV) (f : List D → Sto → SRes) : (Ress.ok d M).st σ f = f d M := rfl
theorem sb_nx (σ : List SV) (M : Sto) (f : List SV → Sto → SRes) : (SRes.nx σ M).bind f = f σ M := rfl
theorem sb_rt (d : D) (M : Sto) (f : List SV → Sto → SRes) : (SRes.rt d M).bind f = .rt d M := rfl
theorem sb_bk (σ : List SV) (M : Sto) (f : List SV → Sto → SRes) : (SRes.bk σ M).bind f = .bk σ M := rfl
theorem sb_ct (σ : List SV) (M : Sto) (f : List SV → Sto → SRes) : (SRes.ct σ M).bind f = .ct σ M := rfl
theorem sb_exc (k : Nat) (d : D) (σ : List SV) (M : Sto) (f : List SV → Sto → SRes) : (SRes.exc k d σ M).bind f = .exc k d σ M := rfl
theorem if_ok {c : Prop} [Decidable c] (x y : D) (M : Sto) : (if c then Res.ok x M else .ok y M) = .ok (if c then x else y) M := by by_cases h : c <;> simp [h]
theorem if_bl {c : Prop} [Decidable c] (x y : Bool) : (if c then D.bl x else .bl y) = .bl (if c then x else y) := by by_cases h : c <;> simp [h]
theorem if_int {c : Prop} [Decidable c] (x y : Int) : (if c then D.int x else .int y) = .int (if c then x else y) := by by_cases h : c <;> simp [h]
theorem if_and (a b : Bool) : (if a = true then b else a) = (a && b) := by cases a <;> cases b <;> rfl
theorem if_or (a b : Bool) : (if a = true then a else b) = (a || b) := by cases a <;> cases b <;> rfl
/-! tests -/
theorem WR.mono {Q Q' : D → Sto → Prop} {X X' : Nat → D → Sto → Prop} {r : Res} (h : WR Q X r) (hq : ∀ d M, Q d M → Q' d M) (hx : ∀ k d M, X k d M → X' k d M) : WR Q' X' r := by
  cases r with
  | ok d M => exact ⟨hq d M h.h⟩
  | exc k d M => exact ⟨hx k d M h.h⟩
  | bad => exact ⟨h.h⟩
/-- no error -/
def nX : Nat → D → Sto → Prop := fun _ _ _ => False
theorem WR.go {Q Q' : D → Sto → Prop} {X' : Nat → D → Sto → Prop} {r : Res} (h : WR Q nX r) (hq : ∀ d M, Q d M → Q' d M) : WR Q' X' r := h.mono hq fun _ _ _ z => z.elim
theorem WR.eq {Q : D → Sto → Prop} {r : Res} (h : WR Q nX r) : ∃ d M, r = .ok d M ∧ Q d M := by
  cases r with
  | ok d M => exact ⟨d, M, rfl, h.h⟩
  | exc k d M => exact h.h.elim
  | bad => exact h.h.elim
theorem WS.mono {F F' : SRes → Prop} {r : SRes} (h : WS F r) (hf : ∀ r, F r → F' r) : WS F' r := by
  cases r <;> first | exact ⟨hf _ h.h⟩ | exact ⟨h.h⟩
theorem z24 {I : List D → List SV → Sto → Prop} {is : List Nat} {body : List SV → Sto → SRes}
    (hs : ∀ d ds σ M, I (d :: ds) σ M → ∃ σ1, setI σ is d = some σ1 ∧ WS (lK F (I ds)) (body σ1 M)) (he : ∀ σ M, I [] σ M → F (.nx σ M)) :
    ∀ (ds : List D) (σ : List SV) (M : Sto), I ds σ M → WS F (forL is body ds σ M)
  | [], σ, M, h => ⟨he σ M h⟩
  | d :: ds, σ, M, h => by
    obtain ⟨σ1, h1, h2⟩ := hs d ds σ M h
    rw [forL, h1]
    show WS F (match body σ1 M with | .nx σ2 M2 => forL is body ds σ2 M2 | .ct σ2 M2 => forL is body ds σ2 M2 | .bk σ2 M2 => .nx σ2 M2 | r => r)
    cases e : body σ1 M with
    | bad => rw [e] at h2; exact h2.h.elim
    | nx σ2 M2 => rw [e] at h2; exact z24 hs he ds σ2 M2 h2.h
    | ct σ2 M2 => rw [e] at h2; exact z24 hs he ds σ2 M2 h2.h
    | bk σ2 M2 => rw [e] at h2; exact ⟨h2.h⟩
    | rt d M2 => rw [e] at h2; exact ⟨h2.h⟩
    | exc k d σ2 M2 => rw [e] at h2; exact ⟨h2.h⟩
theorem z2b {b : Ss} {kc i : Nat} {h : Ss} {σ : List SV} {M : Sto} : WS F (evS P cl (.tryE b kc i h) σ M) = WS (tK F P cl kc i h) (evSs P cl b σ M) := by
  rw [evS]
  cases evSs P cl b σ M with
  | exc k d σ1 M1 => rw [z23]; rfl
  | nx σ1 M1 => rw [z28, z28]; rfl
  | rt d M1 => rw [z29, z29]; rfl
  | bk σ1 M1 => rw [z1d, z1d]; rfl
  | ct σ1 M1 => rw [z1f, z1f]; rfl
  | bad => rw [z1b, z1b]
theorem tK_nx {kc i : Nat} {h : Ss} (σ : List SV) (M : Sto) : tK F P cl kc i h (.nx σ M) = F (.nx σ M) := rfl
theorem tK_rt {kc i : Nat} {h : Ss} (d : D) (M : Sto) : tK F P cl kc i h (.rt d M) = F (.rt d M) := rfl
theorem tK_exc {kc i : Nat} {h : Ss} (k : Nat) (d : D) (σ : List SV) (M : Sto) (t : P.exm k kc = some true) : tK F P cl kc i h (.exc k d σ M) = WS (hK F i) (evSs P cl h (σ.set i (.exc k d)) M) := by
  show WS F ((P.exm k kc).elim .bad _) = _
  rw [t]
  show WS F (match evSs P cl h (σ.set i (.exc k d)) M with | .nx σ2 M2 => if noX (σ2.set i .non) then .nx (σ2.set i .non) M2 else .bad | .rt d M2 => .rt d M2 | _ => .bad) = _
  cases evSs P cl h (σ.set i (.exc k d)) M with
  | nx σ2 M2 => show WS F (if _ then _ else _) = _; rw [z26, IfO_eq, z28, z28]; rfl
  | rt d2 M2 => show WS F (.rt d2 M2) = _; rw [z29, z29]; rfl
  | bk σ2 M2 => show WS F .bad = _; rw [z1b, z1d]; rfl
  | ct σ2 M2 => show WS F .bad = _; rw [z1b, z1f]; rfl
  | exc k2 d2 σ2 M2 => show WS F .bad = _; rw [z1b, z23]; rfl
  | bad => show WS F .bad = _; rw [z1b, z1b]
theorem hK_nx {i : Nat} (σ : List SV) (M : Sto) : hK F i (.nx σ M) = (noX (σ.set i .non) = true ∧ F (.nx (σ.set i .non) M)) := rfl
theorem hK_rt {i : Nat} (d : D) (M : Sto) : hK F i (.rt d M) = F (.rt d M) := rfl
theorem put_m (M : Sto) (n : Nat) (o : MO) (k : Nat) : (M.put n o).m k = if k = n then some o else M.m k := rfl
theorem put_nx (M : Sto) (n : Nat) (o : MO) : (M.put n o).nx = M.nx := rfl
theorem new_m (M : Sto) (o : MO) (k : Nat) : (M.new o).m k = if k = M.nx then some o else M.m k := rfl
theorem new_nx (M : Sto) (o : MO) : (M.new o).nx = M.nx + 1 := rfl
theorem look_r (M : Sto) (n : Nat) : look M (.ref n) = match M.m n with
    | some (.lst ds) => .lst ds
    | some (.dct ks vs) => .dct ks vs
    | _ => .ref n := rfl
end
end Z


set_option Elab.async false
set_option linter.all false
set_option autoImplicit false
set_option maxRecDepth 100000
set_option maxHeartbeats 4000000
namespace Z
section
variable {Q : D → Sto → Prop} {QQ : List D → Sto → Prop} {X : Nat → D → Sto → Prop} {F : SRes → Prop} {P : Prg} {cl : Call}
theorem zd2 (d : D) (σ : List SV) (M : Sto) : WR Q X (evE P cl (.lit d) σ M) = WR Q X (.ok d M) := rfl
theorem ze0 (i : Nat) (σ : List SV) (M : Sto) : WR Q X (evE P cl (.slot i) σ M) = WR Q X ((getV σ i).elim .bad fun d => .ok d M) := rfl
theorem zc2 (i : Nat) (σ : List SV) (M : Sto) : WR Q X (evE P cl (.bor i) σ M) = WR Q X ((getB σ i).elim .bad fun d => .ok d M) := rfl
theorem zcc (g : Nat) (σ : List SV) (M : Sto) : WR Q X (evE P cl (.glb g) σ M) = WR Q X (.ok (P.gl g) M) := rfl
theorem zc0 (op : Bin) (a : E) (b : E) (σ : List SV) (M : Sto) : WR Q X (evE P cl (.bin op a b) σ M) = WR Q X ((evE P cl a σ M).bind fun x M1 => (evE P cl b σ M1).bind fun y M2 => opBin op (look M2 x) (look M2 y) M2) := rfl
theorem zd7 (a : E) (σ : List SV) (M : Sto) : WR Q X (evE P cl (.neg a) σ M) = WR Q X ((evE P cl a σ M).bind fun x M1 => match x with
    | .int i => .ok (.int (-i)) M1
    | _ => .bad) := rfl
theorem zd9 (a : E) (σ : List SV) (M : Sto) : WR Q X (evE P cl (.not_ a) σ M) = WR Q X ((evE P cl a σ M).bind fun x M1 => (tru M1 x).elim .bad fun b => .ok (.bl (!b)) M1) := rfl
theorem zc5 (o : Cm) (a : E) (b : E) (σ : List SV) (M : Sto) : WR Q X (evE P cl (.cmp o a b) σ M) = WR Q X ((evE P cl a σ M).bind fun x M1 => (evE P cl b σ M1).bind fun y M2 => opCmp o (look M2 x) (look M2 y) M2) := rfl
theorem zbd (a : E) (b : E) (σ : List SV) (M : Sto) : WR Q X (evE P cl (.and_ a b) σ M) = WR Q X ((evE P cl a σ M).bind fun x M1 => (tru M1 x).elim .bad fun t => if t then evE P cl b σ M1 else .ok x M1) := rfl
theorem zda (a : E) (b : E) (σ : List SV) (M : Sto) : WR Q X (evE P cl (.or_ a b) σ M) = WR Q X ((evE P cl a σ M).bind fun x M1 => (tru M1 x).elim .bad fun t => if t then .ok x M1 else evE P cl b σ M1) := rfl
theorem zd0 (e : E) (a : E) (b : E) (σ : List SV) (M : Sto) : WR Q X (evE P cl (.ite e a b) σ M) = WR Q X ((evE P cl e σ M).bind fun x M1 => (tru M1 x).elim .bad fun t => if t then evE P cl a σ M1 else evE P cl b σ M1) := rfl
theorem zc3 (f : Nat) (as : Es) (σ : List SV) (M : Sto) : WR Q X (evE P cl (.call f as) σ M) = WR Q X ((evEs P cl as σ M).bind fun ds M1 => callA P cl f (ds ++ P.dfl f ds.length) M1) := rfl
theorem zc4 (q : Nat) (as : Es) (zs : Es) (σ : List SV) (M : Sto) : WR Q X (evE P cl (.callk q as zs) σ M) = WR Q X ((evEs P cl as σ M).bind fun ds M1 => (evEs P cl zs σ M1).bind fun es M2 => callA P cl (P.kq q).1 (ds ++ ((P.kq q).2 ++ es)) M2) := rfl
theorem zd5 (k : Nat) (as : Es) (σ : List SV) (M : Sto) : WR Q X (evE P cl (.mk k as) σ M) = WR Q X ((evEs P cl as σ M).bind fun ds M1 => mkObj P cl k ds M1) := rfl
theorem zd6 (m : Nat) (o : E) (as : Es) (σ : List SV) (M : Sto) : WR Q X (evE P cl (.mth m o as) σ M) = WR Q X ((evE P cl o σ M).bind fun x M1 => (insOf M1 x).elim .bad fun q => if m ∈ q.2.1 then .bad else
      (P.mth q.1 m).elim .bad fun f => (evEs P cl as σ M1).bind fun ds M2 => callA P cl f (x :: (ds ++ P.dfl f (ds.length + 1))) M2) := rfl
theorem zdb (m : Nat) (o : E) (σ : List SV) (M : Sto) : WR Q X (evE P cl (.prp m o) σ M) = WR Q X ((evE P cl o σ M).bind fun x M1 => (insOf M1 x).elim .bad fun q => (P.prp q.1 m).elim .bad fun f => match callA P cl f ([x] ++ P.dfl f 1) M1 with
      | .exc _ _ _ => .bad
      | r => r) := rfl
theorem zc9 (m : Nat) (a : E) (b : E) (σ : List SV) (M : Sto) : WR Q X (evE P cl (.eqm m a b) σ M) = WR Q X ((evE P cl a σ M).bind fun x M1 => (evE P cl b σ M1).bind fun y M2 => eqmR P cl m x y M2) := rfl
theorem zd8 (m : Nat) (a : E) (b : E) (σ : List SV) (M : Sto) : WR Q X (evE P cl (.nem m a b) σ M) = WR Q X (((evE P cl a σ M).bind fun x M1 => (evE P cl b σ M1).bind fun y M2 => eqmR P cl m x y M2).bind fun x M1 => (tru M1 x).elim .bad fun b => .ok (.bl (!b)) M1) := rfl
theorem zcd (f : Nat) (as : Es) (σ : List SV) (M : Sto) : WR Q X (evE P cl (.hcall f as) σ M) = WR Q X ((evEs P cl as σ M).bind fun ds M1 => callA P cl f ds M1) := rfl
theorem zbe (f : Nat) (o : E) (σ : List SV) (M : Sto) : WR Q X (evE P cl (.att f o) σ M) = WR Q X ((evE P cl o σ M).bind fun x M1 => (insOf M1 x).elim .bad fun q => if P.fld q.1 f then ((q.2.1.zip q.2.2).lookup f).elim .bad fun d => .ok d M1 else .bad) := rfl
theorem zce (a : E) (b : E) (σ : List SV) (M : Sto) : WR Q X (evE P cl (.idx a b) σ M) = WR Q X ((evE P cl a σ M).bind fun x M1 => (evE P cl b σ M1).bind fun y M2 => opIdx (look M2 x) (look M2 y) M2) := rfl
theorem zdf (a : E) (l : E) (h : E) (σ : List SV) (M : Sto) : WR Q X (evE P cl (.slc a l h) σ M) = WR Q X ((evE P cl a σ M).bind fun x M1 => (evE P cl l σ M1).bind fun y M2 => (asI y).elim .bad fun i => (evE P cl h σ M2).bind fun v M3 => (asI v).elim .bad fun j => opCut (look M3 x) (some i) (some j) M3) := rfl
theorem zde (a : E) (l : E) (σ : List SV) (M : Sto) : WR Q X (evE P cl (.slL a l) σ M) = WR Q X ((evE P cl a σ M).bind fun x M1 => (evE P cl l σ M1).bind fun y M2 => (asI y).elim .bad fun i => opCut (look M2 x) (some i) none M2) := rfl
theorem zdd (a : E) (h : E) (σ : List SV) (M : Sto) : WR Q X (evE P cl (.slH a h) σ M) = WR Q X ((evE P cl a σ M).bind fun x M1 => (evE P cl h σ M1).bind fun y M2 => (asI y).elim .bad fun i => opCut (look M2 x) none (some i) M2) := rfl
theorem zdc (a : E) (σ : List SV) (M : Sto) : WR Q X (evE P cl (.slA a) σ M) = WR Q X ((evE P cl a σ M).bind fun x M1 => opCut (look M1 x) none none M1) := rfl
theorem ze1 (as : Es) (σ : List SV) (M : Sto) : WR Q X (evE P cl (.tup as) σ M) = WR Q X ((evEs P cl as σ M).bind fun ds M1 => if ds.length ≤ LIM then .ok (.tup ds) M1 else .bad) := rfl
theorem zd3 (as : Es) (σ : List SV) (M : Sto) : WR Q X (evE P cl (.lst as) σ M) = WR Q X ((evEs P cl as σ M).bind fun ds M1 => if ds.length ≤ LIM then .ok (.lst ds) M1 else .bad) := rfl
theorem zd4 (as : Es) (σ : List SV) (M : Sto) : WR Q X (evE P cl (.lstR as) σ M) = WR Q X ((evEs P cl as σ M).bind fun ds M1 => if ds.length ≤ LIM then .ok (.ref M1.nx) (M1.new (.lst ds)) else .bad) := rfl
theorem zc8 (ks : List DK) (as : Es) (σ : List SV) (M : Sto) : WR Q X (evE P cl (.dctR ks as) σ M) = WR Q X ((evEs P cl as σ M).bind fun ds M1 => if ds.length = ks.length ∧ ks.length ≤ 15 ∧ ks.Nodup then .ok (.ref M1.nx) (M1.new (.dct ks ds)) else .bad) := rfl
theorem zbf (b : Bi) (as : Es) (σ : List SV) (M : Sto) : WR Q X (evE P cl (.bi b as) σ M) = WR Q X ((evEs P cl as σ M).bind fun ds M1 => opBi b ds M1) := rfl
theorem zc1 (b : Bm) (o : E) (as : Es) (σ : List SV) (M : Sto) : WR Q X (evE P cl (.bm b o as) σ M) = WR Q X ((evE P cl o σ M).bind fun x M1 => match b with
    | .get | .get2 => if isD (look M1 x) then (evEs P cl as σ M1).bind fun ds M2 => opBm b x ds M2 else .bad
    | .split | .join => match x with
      | .str _ => (evEs P cl as σ M1).bind fun ds M2 => opBm b x ds M2
      | _ => .bad
    | _ => .bad) := rfl
theorem zcf (a : E) (ts : List Ty) (σ : List SV) (M : Sto) : WR Q X (evE P cl (.isi a ts) σ M) = WR Q X ((evE P cl a σ M).bind fun x M1 => (tyM M1 x).elim .bad fun t => (isAny P t ts).elim .bad fun b => .ok (.bl b) M1) := rfl
theorem zca (i : Nat) (f : Nat) (σ : List SV) (M : Sto) : WR Q X (evE P cl (.exf i f) σ M) = WR Q X (match σ[i]? with
    | some (.exc k d) => if P.exf k = f then .ok d M else .bad
    | _ => .bad) := rfl
theorem zcb (i : Nat) (ts : List Ty) (σ : List SV) (M : Sto) : WR Q X (evE P cl (.exi i ts) σ M) = WR Q X (match σ[i]? with
    | some (.exc k _) => (isAny P (.exc k) ts).elim .bad fun b => .ok (.bl b) M
    | _ => .bad) := rfl
theorem zd1 (g : Nat) (a : E) (σ : List SV) (M : Sto) : WR Q X (evE P cl (.kdx g a) σ M) = WR Q X ((evE P cl a σ M).bind fun x M1 => match x with
    | .str s => ((P.kd g).lookup s).elim .bad fun d => .ok d M1
    | _ => .bad) := rfl
theorem ze4  (σ : List SV) (M : Sto) : WRs QQ X (evEs P cl (.nil) σ M) = WRs QQ X (.ok [] M) := rfl
theorem ze3 (e : E) (es : Es) (σ : List SV) (M : Sto) : WRs QQ X (evEs P cl (.cons e es) σ M) = WRs QQ X ((evE P cl e σ M).binds fun x M1 => (evEs P cl es σ M1).binds fun xs M2 => .ok (x :: xs) M2) := rfl
theorem ze2 (e : E) (es : Es) (σ : List SV) (M : Sto) : WRs QQ X (evEs P cl (.conB e es) σ M) = WRs QQ X ((evE P cl e σ M).binds fun x M1 => (evEs P cl es σ M1).binds fun xs M2 => .ok (x :: xs) M2) := rfl
theorem ze5 (e : E) (es : Es) (σ : List SV) (M : Sto) : WRs QQ X (evEs P cl (.star e es) σ M) = WRs QQ X ((evE P cl e σ M).binds fun x M1 => match x with
    | .lst ys => (evEs P cl es σ M1).binds fun xs M2 => .ok (ys ++ xs) M2
    | .tup ys => (evEs P cl es σ M1).binds fun xs M2 => .ok (ys ++ xs) M2
    | _ => .bad) := rfl
theorem z106 (e : E) (σ : List SV) (M : Sto) : WRs QQ X (itE P cl (.seq e) σ M) = WRs QQ X ((evE P cl e σ M).binds fun x M1 => (seqI x).elim .bad fun ds => .ok ds M1) := rfl
theorem z103 (i : Nat) (σ : List SV) (M : Sto) : WRs QQ X (itE P cl (.lent i) σ M) = WRs QQ X (match σ[i]? with
    | some (.brw (.lst ds)) => .ok ds M
    | _ => .bad) := rfl
theorem z105 (as : Es) (σ : List SV) (M : Sto) : WRs QQ X (itE P cl (.rng as) σ M) = WRs QQ X ((evEs P cl as σ M).binds fun ds M1 => (rngOf ds).elim .bad fun ds => .ok ds M1) := rfl
theorem z101 (e : E) (σ : List SV) (M : Sto) : WRs QQ X (itE P cl (.enum e) σ M) = WRs QQ X ((evE P cl e σ M).binds fun x M1 => match x with
    | .lst ds => .ok (enumI 0 ds) M1
    | _ => .bad) := rfl
theorem z107 (a : E) (b : E) (σ : List SV) (M : Sto) : WRs QQ X (itE P cl (.zip a b) σ M) = WRs QQ X ((evE P cl a σ M).binds fun x M1 => (evE P cl b σ M1).binds fun y M2 => match x, y with
    | .lst ds, .lst es => .ok (zipI ds es) M2
    | _, _ => .bad) := rfl
theorem z104 (e : E) (σ : List SV) (M : Sto) : WRs QQ X (itE P cl (.rev e) σ M) = WRs QQ X ((evE P cl e σ M).binds fun x M1 => match x with
    | .lst ds => .ok ds.reverse M1
    | _ => .bad) := rfl
theorem z102 (e : E) (σ : List SV) (M : Sto) : WRs QQ X (itE P cl (.items e) σ M) = WRs QQ X ((evE P cl e σ M).binds fun x M1 => match x with
    | .dct ks vs => .ok (itmI ks vs) M1
    | _ => .bad) := rfl
theorem ze8 (i : Nat) (e : E) (σ : List SV) (M : Sto) : WS F (evS P cl (.asg i e) σ M) = WS F ((evE P cl e σ M).st σ fun d M1 => .nx (σ.set i (.val d)) M1) := rfl
theorem zf5 (i : Nat) (e : E) (σ : List SV) (M : Sto) : WS F (evS P cl (.own i e) σ M) = WS F ((evE P cl e σ M).st σ fun d M1 => match d with
    | .lst ds => .nx (σ.set i (.own (.lst ds))) M1
    | _ => .bad) := rfl
theorem zfd (is : List Nat) (e : E) (σ : List SV) (M : Sto) : WS F (evS P cl (.unp is e) σ M) = WS F ((evE P cl e σ M).st σ fun d M1 => match d with
    | .tup ds => (setT σ is ds).elim .bad fun σ1 => .nx σ1 M1
    | _ => .bad) := rfl
theorem zf6 (i : Nat) (j : Nat) (a : E) (b : E) (σ : List SV) (M : Sto) : WS F (evS P cl (.par i j a b) σ M) = WS F ((evE P cl a σ M).st σ fun x M1 => (evE P cl b σ M1).st σ fun y M2 => .nx ((σ.set i (.val x)).set j (.val y)) M2) := rfl
theorem zfb (o : E) (f : Nat) (e : E) (σ : List SV) (M : Sto) : WS F (evS P cl (.sat o f e) σ M) = WS F ((evE P cl e σ M).st σ fun v M1 => (evE P cl o σ M1).st σ fun x M2 => match x with
    | .ref n => match M2.m n with
      | some (.ins k ns vs) => if ns.length < 1000 ∧ P.fld k f = true then .nx σ (M2.put n (.ins k (putN f ns) (putL f v ns vs))) else .bad
      | _ => .bad
    | _ => .bad) := rfl
theorem ze6 (o : E) (f : Nat) (op : Bin) (e : E) (σ : List SV) (M : Sto) : WS F (evS P cl (.aat o f op e) σ M) = WS F ((evE P cl o σ M).st σ fun x M1 => match x with
    | .ref n => match M1.m n with
      | some (.ins k ns vs) => if P.fld k f = true then ((ns.zip vs).lookup f).elim .bad fun v => (asI v).elim .bad fun i => (evE P cl e σ M1).st σ fun y M2 => (asI y).elim .bad fun j => (aatO op i j).elim .bad fun r => match M2.m n with
        | some (.ins k' ns' vs') => if k' = k ∧ ns'.length < 1000 then .nx σ (M2.put n (.ins k (putN f ns') (putL f (.int r) ns' vs'))) else .bad
        | _ => .bad
        else .bad
      | _ => .bad
    | _ => .bad) := rfl
theorem zfc (o : E) (i : E) (e : E) (σ : List SV) (M : Sto) : WS F (evS P cl (.sit o i e) σ M) = WS F ((evE P cl e σ M).st σ fun v M1 => (evE P cl o σ M1).st σ fun x M2 => (evE P cl i σ M2).st σ fun y M3 => (putIx M3 x y v).elim .bad fun M4 => .nx σ M4) := rfl
theorem zf4 (j : Nat) (i : E) (e : E) (σ : List SV) (M : Sto) : WS F (evS P cl (.osit j i e) σ M) = WS F ((evE P cl e σ M).st σ fun v M1 => (getO σ j).elim .bad fun o => (evE P cl i σ M1).st σ fun y M2 => (putOwn o y v).elim .bad fun o' => .nx (σ.set j (.own o')) M2) := rfl
theorem ze9 (i : Nat) (op : Bin) (e : E) (σ : List SV) (M : Sto) : WS F (evS P cl (.aug i op e) σ M) = WS F ((getV σ i).elim .bad fun x => (evE P cl e σ M).st σ fun y M1 => (opBin op x y M1).st σ fun r M2 => .nx (σ.set i (.val r)) M2) := rfl
theorem ze7 (o : E) (e : E) (σ : List SV) (M : Sto) : WS F (evS P cl (.app o e) σ M) = WS F ((evE P cl o σ M).st σ fun x M1 => match x with
    | .ref n => if isL (look M1 x) then (evE P cl e σ M1).st σ fun v M2 => match M2.m n with
      | some (.lst ds) => if ds.length < LIM then .nx σ (M2.put n (.lst (ds ++ [v]))) else .bad
      | _ => .bad
      else .bad
    | _ => .bad) := rfl
theorem zf2 (j : Nat) (e : E) (σ : List SV) (M : Sto) : WS F (evS P cl (.oapp j e) σ M) = WS F (match getO σ j with
    | some (.lst ds) => (evE P cl e σ M).st σ fun v M1 => if ds.length < LIM then .nx (σ.set j (.own (.lst (ds ++ [v])))) M1 else .bad
    | _ => .bad) := rfl
theorem zed (o : E) (e : E) (σ : List SV) (M : Sto) : WS F (evS P cl (.ext o e) σ M) = WS F ((evE P cl o σ M).st σ fun x M1 => match x with
    | .ref n => if isL (look M1 x) then (evE P cl e σ M1).st σ fun v M2 => (extI v).elim .bad fun es => match M2.m n with
      | some (.lst ds) => if ds.length + es.length ≤ LIM then .nx σ (M2.put n (.lst (ds ++ es))) else .bad
      | _ => .bad
      else .bad
    | _ => .bad) := rfl
theorem zf3 (j : Nat) (e : E) (σ : List SV) (M : Sto) : WS F (evS P cl (.oext j e) σ M) = WS F (match getO σ j with
    | some (.lst ds) => (evE P cl e σ M).st σ fun v M1 => (extI v).elim .bad fun es => if ds.length + es.length ≤ LIM then .nx (σ.set j (.own (.lst (ds ++ es)))) M1 else .bad
    | _ => .bad) := rfl
theorem zec (e : E) (σ : List SV) (M : Sto) : WS F (evS P cl (.ex e) σ M) = WS F ((evE P cl e σ M).st σ fun _ M1 => .nx σ M1) := rfl
theorem zf1 (e : E) (s : Ss) (t : Ss) (σ : List SV) (M : Sto) : WS F (evS P cl (.ife e s t) σ M) = WS F ((evE P cl e σ M).st σ fun x M1 => (tru M1 x).elim .bad fun b => if b then evSs P cl s σ M1 else evSs P cl t σ M1) := rfl
theorem zee (i : Nat) (it : It) (b : Ss) (σ : List SV) (M : Sto) : WS F (evS P cl (.for_ (.nm i) it b) σ M) = WS F ((itE P cl it σ M).st σ fun ds M1 => forL [i] (evSs P cl b) ds σ M1) := rfl
theorem zef (is : List Nat) (it : It) (b : Ss) (σ : List SV) (M : Sto) : WS F (evS P cl (.for_ (.tp is) it b) σ M) = WS F ((itE P cl it σ M).st σ fun ds M1 => forL is (evSs P cl b) ds σ M1) := rfl
theorem zfe (e : E) (b : Ss) (σ : List SV) (M : Sto) : WS F (evS P cl (.while_ e b) σ M) = WS F (whileL (evE P cl e) (evSs P cl b) WFUEL σ M) := rfl
theorem zf9 (e : E) (σ : List SV) (M : Sto) : WS F (evS P cl (.ret e) σ M) = WS F ((evE P cl e σ M).st σ fun d M1 => .rt d M1) := rfl
theorem zfa  (σ : List SV) (M : Sto) : WS F (evS P cl (.retN) σ M) = WS F (.rt .non M) := rfl
theorem zf8 (k : Nat) (e : E) (σ : List SV) (M : Sto) : WS F (evS P cl (.raise_ k e) σ M) = WS F ((evE P cl e σ M).st σ fun d M1 => .exc k d σ M1) := rfl
theorem zf7  (σ : List SV) (M : Sto) : WS F (evS P cl (.pass_) σ M) = WS F (.nx σ M) := rfl
theorem zea  (σ : List SV) (M : Sto) : WS F (evS P cl (.brk) σ M) = WS F (.bk σ M) := rfl
theorem zeb  (σ : List SV) (M : Sto) : WS F (evS P cl (.cnt) σ M) = WS F (.ct σ M) := rfl
theorem zf0 (i : Nat) (σ : List SV) (M : Sto) : WS F (evS P cl (.frz i) σ M) = WS F ((getO σ i).elim .bad fun o => (thaw o).elim .bad fun d => .nx (σ.set i (.val d)) M) := rfl
theorem z100  (σ : List SV) (M : Sto) : WS F (evSs P cl (.nil) σ M) = WS F (.nx σ M) := rfl
theorem zff (s : S) (ss : Ss) (σ : List SV) (M : Sto) : WS F (evSs P cl (.cons s ss) σ M) = WS F ((evS P cl s σ M).bind fun σ1 M1 => evSs P cl ss σ1 M1) := rfl
def cm2 (r : D) (M3 : Sto) (A : Res) : Res := match r with
  | .bl true => A
  | .bl false => .ok (.bl false) M3
  | _ => .bad
theorem zc6 (o o' : Cm) (a b e : E) (σ : List SV) (M : Sto) : WR Q X (evE P cl (.cmp2 o o' a b e) σ M) = WR Q X ((evE P cl a σ M).bind fun x M1 => (evE P cl b σ M1).bind fun y M2 => (opCmp o (look M2 x) (look M2 y) M2).bind fun r M3 => cm2 r M3 ((evE P cl e σ M3).bind fun v M4 => opCmp o' (look M4 y) (look M4 v) M4)) := rfl
theorem z3 (b : Bool) (M3 : Sto) (A : Res) : WR Q X (cm2 (.bl b) M3 A) = ((b = true → WR Q X A) ∧ (b = false → Q (.bl false) M3)) := by cases b <;> simp [cm2, z10]
/-- a part that may fail -/
def WO {α : Type} (K : α → Prop) [Fx K] : Option α → Prop
  | none => False
  | some a => K a
theorem WO_some {α : Type} {K : α → Prop} (a : α) : WO K (some a) = K a := rfl
theorem WO_none {α : Type} {K : α → Prop} : WO K none = False := rfl
theorem z7 {α : Type} (o : Option α) (f : α → Res) : WR Q X (o.elim .bad f) = WO (fun a => WR Q X (f a)) o := by
  cases o with
  | none => exact z0
  | some a => rfl
theorem z15 {α : Type} (o : Option α) (f : α → Ress) : WRs QQ X (o.elim .bad f) = WO (fun a => WRs QQ X (f a)) o := by
  cases o with
  | none => exact z11
  | some a => rfl
theorem z21 {α : Type} (o : Option α) (f : α → SRes) : WS F (o.elim .bad f) = WO (fun a => WS F (f a)) o := by
  cases o with
  | none => exact z1b
  | some a => rfl
theorem lkN {β : Type} (a b : Nat) (v : β) (l : List (Nat × β)) : List.lookup a ((b, v) :: l) = if a = b then some v else List.lookup a l := by
  rw [List.lookup_cons]
  by_cases h : a = b
  · subst h; simp
  · rw [beq_eq_false_iff_ne.mpr h, if_neg h]
theorem w_forL_nil (is : List Nat) (body : List SV → Sto → SRes) (σ : List SV) (M : Sto) : WS F (forL is body [] σ M) = F (.nx σ M) := z28 σ M
theorem w_forL_cons (is : List Nat) (body : List SV → Sto → SRes) (d : D) (ds : List D) (σ : List SV) (M : Sto) : WS F (forL is body (d :: ds) σ M) = WO (fun σ1 => WS (lK F (fun σ2 M2 => WS F (forL is body ds σ2 M2))) (body σ1 M)) (setI σ is d) := by
  rw [forL]
  cases setI σ is d with
  | none => exact z1b
  | some σ1 =>
    show WS F (match body σ1 M with | .nx σ2 M2 => forL is body ds σ2 M2 | .ct σ2 M2 => forL is body ds σ2 M2 | .bk σ2 M2 => .nx σ2 M2 | r => r) = WS _ (body σ1 M)
    cases body σ1 M with
    | exc k d σ2 M2 => rw [z23, z23]; rfl
    | nx σ2 M2 => rw [z28]; rfl
    | rt d M2 => rw [z29, z29]; rfl
    | bk σ2 M2 => rw [z28, z1d]; rfl
    | ct σ2 M2 => rw [z1f]; rfl
    | bad => rw [z1b, z1b]
theorem WR.eqv {a : D} {M1 : Sto} {r : Res} (h : WR (fun v M' => v = a ∧ M' = M1) nX r) : r = .ok a M1 := by
  obtain ⟨d, M, e, rfl, rfl⟩ := h.eq
  exact e
theorem WO.go {α : Type} {K : α → Prop} {o : Option α} {a : α} (e : o = some a) (h : K a) : WO K o := by subst e; exact h
end
end Z


set_option Elab.async false
set_option linter.all false
set_option autoImplicit false
set_option maxRecDepth 100000
set_option maxHeartbeats 4000000
namespace Z
open PySem L2
/-! ### list comprehensions, in the plain proof -/
section
variable {P : Prg} {cl : Call} {Q : D → Sto → Prop} {X : Nat → D → Sto → Prop}
theorem zc7 (is : List Nat) (it : It) (cond body : E) (σ : List SV) (M : Sto) :
    WR Q X (evE P cl (.comp is it cond body) σ M) = WRs (fun ds M1 => WR Q X (compL is (evE P cl cond) (evE P cl body) (wipeZ σ is) ds M1 [])) X (itE P cl it σ M) := by
  rw [evE]; exact z1q' ..
theorem comp_pure {is : List Nat} {body : Ev} {σ : List SV} {f : D → D} {M : Sto} : ∀ {ds acc : List D}, (∀ d ∈ ds, ∃ σ1, setI σ is d = some σ1 ∧ body σ1 M = .ok (f d) M) → acc.length + ds.length ≤ LIM →
    compL is (evE P cl (.lit (.bl true))) body σ ds M acc = .ok (.lst (acc ++ ds.map f)) M
  | [], acc, _, _ => by rw [compL, List.map_nil, List.append_nil]
  | d :: ds, acc, h, hl => by
    obtain ⟨σ1, h1, h2⟩ := h d List.mem_cons_self
    have hc : acc.length < LIM := by simp only [List.length_cons] at hl; omega
    have e1 : evE P cl (.lit (.bl true)) σ1 M = .ok (.bl true) M := by rw [evE]
    have ih := comp_pure (acc := acc ++ [f d]) (fun e he => h e (List.mem_cons_of_mem _ he)) (by simp only [List.length_cons] at hl; simp only [List.length_append, List.length_singleton]; omega)
    simp only [compL, h1, Option.elim_some, e1, tru, if_true, h2, if_pos hc, ih, List.map_cons, List.append_assoc, List.singleton_append, look, Option.elim_some]
theorem w_compL_nil (is : List Nat) (c b : Ev) (σ : List SV) (M : Sto) (acc : List D) : WR Q X (compL is c b σ [] M acc) = Q (.lst acc) M := by rw [compL, z10]
theorem w_compL_cons (is : List Nat) (body : Ev) (σ : List SV) (d : D) (ds : List D) (M : Sto) (acc : List D) : WR Q X (compL is (evE P cl (.lit (.bl true))) body σ (d :: ds) M acc) =
    WO (fun σ1 => WR (fun y M2 => IfO (acc.length < LIM) (WR Q X (compL is (evE P cl (.lit (.bl true))) body σ ds M2 (acc ++ [y])))) nX (body σ1 M)) (setI σ is d) := by
  cases h1 : setI σ is d with
  | none => simp only [compL, h1, Option.elim_none, z0]; rfl
  | some σ1 =>
    have e1 : evE P cl (.lit (.bl true)) σ1 M = .ok (.bl true) M := by rw [evE]
    simp only [compL, h1, Option.elim_some, e1, tru, look, if_true]
    show _ = WR _ nX (body σ1 M)
    cases h2 : body σ1 M with
    | ok y M2 => rw [z10]; exact ze _
    | exc k y M2 => rw [za, z0]; rfl
    | bad => rw [z0, z0]
end
end Z


set_option Elab.async false
set_option linter.all false
set_option autoImplicit false
set_option maxRecDepth 100000
set_option maxHeartbeats 4000000
namespace Z
open PySem L2
/-! ### more rules of the plain proof -/
section
variable {P : Prg} {cl : Call} {Q : D → Sto → Prop} {X : Nat → D → Sto → Prop}
/-- a comprehension, by an invariant -/
theorem z5 {is : List Nat} {cond body : Ev} {σ : List SV} {I : List D → List D → Sto → Prop}
    (hs : ∀ d ds acc M, I (d :: ds) acc M → acc.length < LIM ∧ ∃ σ1, setI σ is d = some σ1 ∧ WR (fun x M1 => ∃ t, tru M1 x = some t ∧ (t = true → WR (fun y M2 => I ds (acc ++ [y]) M2) nX (body σ1 M1)) ∧ (t = false → I ds acc M1)) nX (cond σ1 M)) (he : ∀ acc M, I [] acc M → Q (.lst acc) M) :
    ∀ (ds acc : List D) (M : Sto), I ds acc M → WR Q X (compL is cond body σ ds M acc)
  | [], acc, M, h => by rw [compL, z10]; exact he acc M h
  | d :: ds, acc, M, h => by
    obtain ⟨hl, σ1, h1, h2⟩ := hs d ds acc M h
    obtain ⟨x, M1, e1, t, ht, hT, hF⟩ := h2.eq
    cases t with
    | false =>
      have := z5 hs he ds acc M1 (hF rfl)
      simp only [compL, h1, Option.elim_some, e1, ht, if_false, Bool.false_eq_true]
      exact this
    | true =>
      obtain ⟨y, M2, e2, h3⟩ := (hT rfl).eq
      have := z5 hs he ds (acc ++ [y]) M2 h3
      simp only [compL, h1, Option.elim_some, e1, ht, if_true, e2, if_pos hl]
      exact this
theorem z4 {is : List Nat} {body : Ev} {σ : List SV} {I : List D → List D → Sto → Prop}
    (hs : ∀ d ds acc M, I (d :: ds) acc M → acc.length < LIM ∧ ∃ σ1, setI σ is d = some σ1 ∧ WR (fun y M2 => I ds (acc ++ [y]) M2) nX (body σ1 M)) (he : ∀ acc M, I [] acc M → Q (.lst acc) M)
    (ds acc : List D) (M : Sto) (h : I ds acc M) : WR Q X (compL is (evE P cl (.lit (.bl true))) body σ ds M acc) := by
  refine z5 (I := I) (fun d ds acc M h => ?_) he ds acc M h
  obtain ⟨hl, σ1, h1, h2⟩ := hs d ds acc M h
  refine ⟨hl, σ1, h1, ?_⟩
  rw [evE, z10]
  exact ⟨true, rfl, fun _ => h2, fun h => by cases h⟩
theorem comp_map {α : Type} {row out : α → D} {is : List Nat} {body : Ev} {σ : List SV} {M : Sto} : ∀ {l : List α} {acc : List D}, (∀ a ∈ l, ∃ σ1, setI σ is (row a) = some σ1 ∧ body σ1 M = .ok (out a) M) → acc.length + l.length ≤ LIM →
    compL is (evE P cl (.lit (.bl true))) body σ (l.map row) M acc = .ok (.lst (acc ++ l.map out)) M
  | [], acc, _, _ => by rw [List.map_nil, compL, List.map_nil, List.append_nil]
  | d :: ds, acc, h, hl => by
    obtain ⟨σ1, h1, h2⟩ := h d List.mem_cons_self
    have hc : acc.length < LIM := by simp only [List.length_cons] at hl; omega
    have e1 : evE P cl (.lit (.bl true)) σ1 M = .ok (.bl true) M := by rw [evE]
    have ih := comp_map (row := row) (out := out) (body := body) (l := ds) (acc := acc ++ [out d]) (fun e he => h e (List.mem_cons_of_mem _ he)) (by simp only [List.length_cons] at hl; simp only [List.length_append, List.length_singleton]; omega)
    simp only [List.map_cons, compL, h1, Option.elim_some, e1, tru, if_true, h2, if_pos hc, ih, List.append_assoc, List.singleton_append, look]
end
theorem rngI_cons (lo : Int) (n : Nat) : rngI lo (n + 1) 1 = .int lo :: rngI (lo + 1) n 1 := by
  unfold rngI
  rw [List.range_succ_eq_map, List.map_cons, List.map_map]
  congr 1
  · simp
  · refine List.map_congr_left fun i _ => ?_
    show D.int (lo + ((i + 1 : Nat) : Int) * 1) = _
    congr 1; omega
theorem rng1 {j : Int} (h : 0 ≤ j) (h2 : j < 4611686018427387904) : rngOf [.int j] = some (rngI 0 j.toNat 1) := by
  show (if _ then _ else _) = _
  rw [if_pos ⟨by unfold B62; omega, by unfold B62; omega⟩]
theorem rngI_len {lo : Int} {n : Nat} {st : Int} : (rngI lo n st).length = n := by simp [rngI]
theorem put_put (M : Sto) (n : Nat) (o o' : MO) : (M.put n o).put n o' = M.put n o' := by
  unfold Sto.put
  congr 1
  funext k
  by_cases h : k = n <;> simp [h]
end Z


set_option Elab.async false
set_option linter.all false
set_option autoImplicit false
set_option maxRecDepth 100000
set_option maxHeartbeats 4000000
namespace Q
open PySem
def top (i : Nat) : Stmt := PySem.Challenge.pw_sureplay_k86_lines_of_edits.main.body.getD i (.Pass ⟨0, 0, 0, 0⟩)
end Q
namespace Q
open PySem L2 Z

def s_ : List Nat := []
def s__ : List Nat := [32]
def s_0 : List Nat := [48]
def s_put : List Nat := [112, 117, 116]
def s_put_ : List Nat := [112, 117, 116, 32]
def s_back : List Nat := [98, 97, 99, 107]
def s_back_ : List Nat := [98, 97, 99, 107, 32]
def s_drop : List Nat := [100, 114, 111, 112]
def s_on : List Nat := [111, 110]
def s_off : List Nat := [111, 102, 102]
def s_switch : List Nat := [115, 119, 105, 116, 99, 104]
def s_option_n : List Nat := [111, 112, 116, 105, 111, 110, 32, 110]
def s_n : List Nat := [110]
def s_option : List Nat := [111, 112, 116, 105, 111, 110]
def s_var_n : List Nat := [118, 97, 114, 32, 110]
def s_var : List Nat := [118, 97, 114]
def s_round_n : List Nat := [114, 111, 117, 110, 100, 32, 110]
def s__pay_ : List Nat := [32, 112, 97, 121, 32]
def s__pay_n : List Nat := [32, 112, 97, 121, 32, 110]
def s__when_n : List Nat := [32, 119, 104, 101, 110, 32, 110]
def s__take_ : List Nat := [32, 116, 97, 107, 101, 32]
def s__end : List Nat := [32, 101, 110, 100]
def s__show_both_ : List Nat := [32, 115, 104, 111, 119, 32, 98, 111, 116, 104, 32]
def s_round : List Nat := [114, 111, 117, 110, 100]
def s_round_n0_pay_n2 : List Nat := [114, 111, 117, 110, 100, 32, 110, 48, 32, 112, 97, 121, 32, 110, 50]
def s_option_n0 : List Nat := [111, 112, 116, 105, 111, 110, 32, 110, 48]
def s_var_n0_2_var_n1_3 : List Nat := [118, 97, 114, 32, 110, 48, 32, 50, 32, 118, 97, 114, 32, 110, 49, 32, 51]
def s__var_n0_2 : List Nat := [32, 118, 97, 114, 32, 110, 48, 32, 50]
def s_end_1 : List Nat := [101, 110, 100, 32, 49]
def s_x : List Nat := [120]
def s_end : List Nat := [101, 110, 100]
def s_drop_ : List Nat := [100, 114, 111, 112, 32]
def s_switch_ : List Nat := [115, 119, 105, 116, 99, 104, 32]
def s_drop_n0_n0 : List Nat := [100, 114, 111, 112, 32, 110, 48, 32, 110, 48]
def s_drop_var_end : List Nat := [100, 114, 111, 112, 32, 118, 97, 114, 32, 101, 110, 100]
def s_back_65536 : List Nat := [98, 97, 99, 107, 32, 54, 53, 53, 51, 54]
def s_back_01 : List Nat := [98, 97, 99, 107, 32, 48, 49]
def s_drop_var_0n : List Nat := [100, 114, 111, 112, 32, 118, 97, 114, 32, 48, 110]
def s_back__1 : List Nat := [98, 97, 99, 107, 32, 45, 49]
def s_switch_n0_up : List Nat := [115, 119, 105, 116, 99, 104, 32, 110, 48, 32, 117, 112]
def s_switch_x123456789012 : List Nat := [115, 119, 105, 116, 99, 104, 32, 120, 49, 50, 51, 52, 53, 54, 55, 56, 57, 48, 49, 50, 51, 32, 111, 110]
def s_put__x_ : List Nat := [112, 117, 116, 32, 32, 120, 32]
def s__x_ : List Nat := [32, 120, 32]
def s__on : List Nat := [32, 111, 110]
def s____ : List Nat := [32, 43, 32]
def s_abcdefghijklmnopqrst : List Nat := [97, 98, 99, 100, 101, 102, 103, 104, 105, 106, 107, 108, 109, 110, 111, 112, 113, 114, 115, 116, 117, 118, 119, 120, 121, 122]
def s_0123456789 : List Nat := [48, 49, 50, 51, 52, 53, 54, 55, 56, 57]
def s_set : List Nat := [115, 101, 116]
def s_if : List Nat := [105, 102]
def s_else : List Nat := [101, 108, 115, 101]
def s_when : List Nat := [119, 104, 101, 110]
def s_draw : List Nat := [100, 114, 97, 119]
def s_first : List Nat := [102, 105, 114, 115, 116]
def s_second : List Nat := [115, 101, 99, 111, 110, 100]
def s_show : List Nat := [115, 104, 111, 119]
def s_both : List Nat := [98, 111, 116, 104]
def s_pay : List Nat := [112, 97, 121]
def s_take : List Nat := [116, 97, 107, 101]
def s_pick : List Nat := [112, 105, 99, 107]
def s_mod : List Nat := [109, 111, 100]
def s_player : List Nat := [112, 108, 97, 121, 101, 114]
def s_keep : List Nat := [107, 101, 101, 112]
def s_lot : List Nat := [108, 111, 116]
def s_while : List Nat := [119, 104, 105, 108, 101]
def s_answer : List Nat := [97, 110, 115, 119, 101, 114]
def s_view : List Nat := [118, 105, 101, 119]
def s_long : List Nat := [108, 111, 110, 103]
def b_split_words : Ss := (.cons (.ife (.cmp .eq (.slot 0) (.lit (.str s_)))
  (.cons (.ret (.lst .nil))
  .nil)
  .nil)
  (.cons (.ret (.bm .split (.slot 0) (.cons (.lit (.str s__)) .nil)))
  .nil))
def b_join_words : Ss := (.cons (.ret (.bm .join (.lit (.str s__)) (.cons (.slot 0) .nil)))
  .nil)
def b_is_name : Ss := (.cons (.ife (.or_ (.cmp .in_ (.slot 0) (.glb 4)) (.not_ (.cmp2 .le .le (.lit (.int 1)) (.bi .len (.cons (.slot 0) .nil)) (.glb 2))))
  (.cons (.ret (.lit (.bl false)))
  .nil)
  .nil)
  (.cons (.ife (.cmp .nin (.idx (.slot 0) (.lit (.int 0))) (.glb 0))
  (.cons (.ret (.lit (.bl false)))
  .nil)
  .nil)
  (.cons (.for_ (.tp [1]) (.seq (.slot 0))
  (.cons (.ife (.and_ (.cmp .nin (.slot 1) (.glb 0)) (.cmp .nin (.slot 1) (.glb 1)))
  (.cons (.ret (.lit (.bl false)))
  .nil)
  .nil)
  .nil))
  (.cons (.ret (.lit (.bl true)))
  .nil))))
def b_number_of : Ss := (.cons (.ife (.not_ (.cmp2 .le .le (.lit (.int 1)) (.bi .len (.cons (.slot 0) .nil)) (.bi .len (.cons (.bi .str_ (.cons (.glb 3) .nil)) .nil))))
  (.cons (.ret (.lit .non))
  .nil)
  .nil)
  (.cons (.for_ (.tp [1]) (.seq (.slot 0))
  (.cons (.ife (.cmp .nin (.slot 1) (.glb 1))
  (.cons (.ret (.lit .non))
  .nil)
  .nil)
  .nil))
  (.cons (.ife (.and_ (.cmp .eq (.idx (.slot 0) (.lit (.int 0))) (.lit (.str s_0))) (.cmp .gt (.bi .len (.cons (.slot 0) .nil)) (.lit (.int 1))))
  (.cons (.ret (.lit .non))
  .nil)
  .nil)
  (.cons (.asg 2 (.bi .int_ (.cons (.slot 0) .nil)))
  (.cons (.ife (.cmp .gt (.slot 2) (.glb 3))
  (.cons (.ret (.lit .non))
  .nil)
  .nil)
  (.cons (.ret (.slot 2))
  .nil))))))
def b_Cursor_init : Ss := (.cons (.sat (.slot 0) 0 (.bi .list_ (.cons (.slot 1) .nil)))
  (.cons (.sat (.slot 0) 1 (.bi .list_ (.cons (.slot 2) .nil)))
  (.cons (.sat (.slot 0) 2 (.bi .list_ (.cons (.slot 3) .nil)))
  (.cons (.sat (.slot 0) 3 (.slot 4))
  (.cons (.sat (.slot 0) 4 (.lit (.int 0)))
  (.cons (.sat (.slot 0) 5 (.lit (.int 0)))
  (.cons (.sat (.slot 0) 6 (.lit (.int 0)))
  .nil)))))))
def b_Cursor_word : Ss := (.cons (.ife (.cmp .lt (.att 4 (.slot 0)) (.bi .len (.cons (.att 0 (.slot 0)) .nil)))
  (.cons (.ret (.idx (.att 0 (.slot 0)) (.att 4 (.slot 0))))
  .nil)
  .nil)
  (.cons (.ret (.lit .non))
  .nil))
def b_Cursor_take_number : Ss := (.cons (.asg 3 (.prp 7 (.slot 0)))
  (.cons (.asg 4 (.lit .non))
  (.cons (.ife (.cmp .isn (.slot 3) (.lit .non))
  (.cons (.asg 4 (.call 3 (.cons (.slot 3) .nil)))
  .nil)
  .nil)
  (.cons (.ife (.or_ (.cmp .is_ (.slot 4) (.lit .non)) (.not_ (.cmp2 .le .le (.slot 1) (.slot 4) (.slot 2))))
  (.cons (.raise_ 1 (.att 4 (.slot 0)))
  .nil)
  .nil)
  (.cons (.aat (.slot 0) 4 .add (.lit (.int 1)))
  (.cons (.ret (.slot 4))
  .nil))))))
def b_Cursor_take_name : Ss := (.cons (.asg 2 (.prp 7 (.slot 0)))
  (.cons (.ife (.or_ (.cmp .is_ (.slot 2) (.lit .non)) (.cmp .nin (.slot 2) (.slot 1)))
  (.cons (.raise_ 1 (.att 4 (.slot 0)))
  .nil)
  .nil)
  (.cons (.aat (.slot 0) 4 .add (.lit (.int 1)))
  (.cons (.ret (.slot 2))
  .nil))))
def b_Cursor_take_new_name : Ss := (.cons (.asg 2 (.prp 7 (.slot 0)))
  (.cons (.ife (.or_ (.cmp .is_ (.slot 2) (.lit .non)) (.or_ (.not_ (.call 2 (.cons (.slot 2) .nil))) (.cmp .in_ (.slot 2) (.slot 1))))
  (.cons (.raise_ 1 (.att 4 (.slot 0)))
  .nil)
  .nil)
  (.cons (.aat (.slot 0) 4 .add (.lit (.int 1)))
  (.cons (.ret (.slot 2))
  .nil))))
def b_edit_text : Ss := (.cons (.ife (.cmp .eq (.idx (.slot 0) (.lit (.int 0))) (.lit (.str s_put)))
  (.cons (.ret (.bin .add (.lit (.str s_put_)) (.idx (.slot 0) (.lit (.int 1)))))
  .nil)
  .nil)
  (.cons (.ife (.cmp .eq (.idx (.slot 0) (.lit (.int 0))) (.lit (.str s_back)))
  (.cons (.ret (.bin .add (.lit (.str s_back_)) (.bi .str_ (.cons (.idx (.slot 0) (.lit (.int 1))) .nil))))
  .nil)
  .nil)
  (.cons (.ife (.cmp .eq (.idx (.slot 0) (.lit (.int 0))) (.lit (.str s_drop)))
  (.cons (.ret (.call 1 (.cons (.lst (.cons (.lit (.str s_drop)) (.cons (.idx (.slot 0) (.lit (.int 1))) (.cons (.idx (.slot 0) (.lit (.int 2))) .nil)))) .nil)))
  .nil)
  .nil)
  (.cons (.ret (.call 1 (.cons (.lst (.cons (.lit (.str s_switch)) (.cons (.idx (.slot 0) (.lit (.int 1))) (.cons (.ite (.idx (.slot 0) (.lit (.int 2))) (.lit (.str s_on)) (.lit (.str s_off))) .nil)))) .nil)))
  .nil))))
def b_read_edit : Ss := (.cons (.ife (.cmp .eq (.slH (.slot 0) (.lit (.int 4))) (.lit (.str s_put_)))
  (.cons (.ret (.tup (.cons (.lit (.str s_put)) (.cons (.slL (.slot 0) (.lit (.int 4))) .nil))))
  .nil)
  .nil)
  (.cons (.asg 1 (.mk 0 (.cons (.call 0 (.cons (.slot 0) .nil)) .nil)))
  (.cons (.asg 2 (.mth 8 (.slot 1) (.cons (.tup (.cons (.lit (.str s_put)) (.cons (.lit (.str s_drop)) (.cons (.lit (.str s_switch)) (.cons (.lit (.str s_back)) .nil))))) .nil)))
  (.cons (.ife (.cmp .eq (.slot 2) (.lit (.str s_put)))
  (.cons (.raise_ 1 (.lit (.int 1)))
  .nil)
  .nil)
  (.cons (.ife (.cmp .eq (.slot 2) (.lit (.str s_back)))
  (.cons (.asg 3 (.tup (.cons (.lit (.str s_back)) (.cons (.mth 9 (.slot 1) (.cons (.lit (.int 0)) (.cons (.glb 3) .nil))) .nil))))
  .nil)
  (.cons (.ife (.cmp .eq (.slot 2) (.lit (.str s_drop)))
  (.cons (.asg 4 (.mth 8 (.slot 1) (.cons (.glb 5) .nil)))
  (.cons (.asg 3 (.tup (.cons (.lit (.str s_drop)) (.cons (.slot 4) (.cons (.mth 10 (.slot 1) (.cons (.tup .nil) .nil)) .nil)))))
  .nil))
  (.cons (.asg 5 (.mth 10 (.slot 1) (.cons (.tup .nil) .nil)))
  (.cons (.asg 3 (.tup (.cons (.lit (.str s_switch)) (.cons (.slot 5) (.cons (.cmp .eq (.mth 8 (.slot 1) (.cons (.tup (.cons (.lit (.str s_on)) (.cons (.lit (.str s_off)) .nil))) .nil)) (.lit (.str s_on))) .nil)))))
  .nil)))
  .nil))
  (.cons (.ife (.cmp .isn (.prp 7 (.slot 1)) (.lit .non))
  (.cons (.raise_ 1 (.att 4 (.slot 1)))
  .nil)
  .nil)
  (.cons (.ret (.slot 3))
  .nil)))))))
def b_law_is_integer : Ss := (.cons (.ret (.and_ (.isi (.slot 0) [.int_]) (.not_ (.isi (.slot 0) [.bool_]))))
  .nil)
def b_law_option : Ss := (.cons (.ret (.tup (.cons (.lit (.str s_option)) (.cons (.bin .add (.lit (.str s_n)) (.bi .str_ (.cons (.slot 0) .nil))) (.cons (.bin .add (.bin .add (.bin .add (.lit (.str s_option_n)) (.bi .str_ (.cons (.slot 0) .nil))) (.lit (.str s__))) (.idx (.tup (.cons (.lit (.str s_off)) (.cons (.lit (.str s_on)) .nil))) (.bin .mod (.bi .int_ (.cons (.slot 1) .nil)) (.lit (.int 2))))) .nil)))))
  .nil)
def b_law_variable : Ss := (.cons (.ret (.tup (.cons (.lit (.str s_var)) (.cons (.bin .add (.lit (.str s_n)) (.bi .str_ (.cons (.slot 0) .nil))) (.cons (.bin .add (.bin .add (.bin .add (.lit (.str s_var_n)) (.bi .str_ (.cons (.slot 0) .nil))) (.lit (.str s__))) (.bi .str_ (.cons (.bin .add (.lit (.int 1)) (.bin .mod (.bi .int_ (.cons (.slot 1) .nil)) (.lit (.int 9)))) .nil))) .nil)))))
  .nil)
def b_law_round : Ss := (.cons (.asg 2 (.bin .add (.bin .add (.bin .add (.lit (.str s_round_n)) (.bi .str_ (.cons (.slot 0) .nil))) (.lit (.str s__pay_))) (.bi .str_ (.cons (.bin .mod (.bi .int_ (.cons (.slot 1) .nil)) (.lit (.int 10))) .nil))))
  (.cons (.ife (.cmp .eq (.bin .mod (.bin .fdiv (.bi .int_ (.cons (.slot 1) .nil)) (.lit (.int 10))) (.lit (.int 3))) (.lit (.int 1)))
  (.cons (.asg 2 (.bin .add (.bin .add (.slot 2) (.lit (.str s__pay_n))) (.bi .str_ (.cons (.bin .mod (.bin .fdiv (.bi .int_ (.cons (.slot 1) .nil)) (.lit (.int 30))) (.lit (.int 3))) .nil))))
  .nil)
  .nil)
  (.cons (.ife (.cmp .eq (.bin .mod (.bin .fdiv (.bi .int_ (.cons (.slot 1) .nil)) (.lit (.int 10))) (.lit (.int 3))) (.lit (.int 2)))
  (.cons (.asg 2 (.bin .add (.bin .add (.bin .add (.bin .add (.bin .add (.slot 2) (.lit (.str s__when_n))) (.bi .str_ (.cons (.bin .mod (.bin .fdiv (.bi .int_ (.cons (.slot 1) .nil)) (.lit (.int 30))) (.lit (.int 2))) .nil))) (.lit (.str s__take_))) (.bi .str_ (.cons (.bin .mod (.bin .fdiv (.bi .int_ (.cons (.slot 1) .nil)) (.lit (.int 60))) (.lit (.int 10))) .nil))) (.lit (.str s__end))))
  .nil)
  .nil)
  (.cons (.ife (.cmp .eq (.bin .mod (.bin .fdiv (.bi .int_ (.cons (.slot 1) .nil)) (.lit (.int 600))) (.lit (.int 3))) (.lit (.int 1)))
  (.cons (.asg 2 (.bin .add (.bin .add (.slot 2) (.lit (.str s__show_both_))) (.bi .str_ (.cons (.bin .mod (.bin .fdiv (.bi .int_ (.cons (.slot 1) .nil)) (.lit (.int 1800))) (.lit (.int 5))) .nil))))
  .nil)
  .nil)
  (.cons (.ret (.tup (.cons (.lit (.str s_round)) (.cons (.bin .add (.lit (.str s_n)) (.bi .str_ (.cons (.slot 0) .nil))) (.cons (.bin .add (.slot 2) (.lit (.str s__end))) .nil)))))
  .nil)))))
def b_law_piece : Ss := (.cons (.ife (.cmp .eq (.bin .mod (.bi .int_ (.cons (.slot 0) .nil)) (.lit (.int 3))) (.lit (.int 0)))
  (.cons (.ret (.call 12 (.cons (.bin .mod (.bin .fdiv (.bi .int_ (.cons (.slot 0) .nil)) (.lit (.int 3))) (.lit (.int 2))) (.cons (.bin .fdiv (.bi .int_ (.cons (.slot 0) .nil)) (.lit (.int 6))) .nil))))
  .nil)
  .nil)
  (.cons (.ife (.cmp .eq (.bin .mod (.bi .int_ (.cons (.slot 0) .nil)) (.lit (.int 3))) (.lit (.int 1)))
  (.cons (.ret (.call 13 (.cons (.bin .mod (.bin .fdiv (.bi .int_ (.cons (.slot 0) .nil)) (.lit (.int 3))) (.lit (.int 3))) (.cons (.bin .fdiv (.bi .int_ (.cons (.slot 0) .nil)) (.lit (.int 9))) .nil))))
  .nil)
  .nil)
  (.cons (.ret (.call 14 (.cons (.bin .mod (.bin .fdiv (.bi .int_ (.cons (.slot 0) .nil)) (.lit (.int 3))) (.lit (.int 3))) (.cons (.bin .fdiv (.bi .int_ (.cons (.slot 0) .nil)) (.lit (.int 9))) .nil))))
  .nil)))
def b_law_strange : Ss := (.cons (.asg 1 (.tup (.cons (.lit (.str s_)) (.cons (.lit (.str s_x)) (.cons (.lit (.str s_end_1)) (.cons (.lit (.str s__var_n0_2)) (.cons (.lit (.str s_round)) (.cons (.lit (.str s_var)) (.cons (.lit (.str s_option)) (.cons (.lit (.str s_var_n0_2_var_n1_3)) (.cons (.lit (.str s_option_n0)) (.cons (.lit (.str s_round_n0_pay_n2)) .nil))))))))))))
  (.cons (.ret (.idx (.slot 1) (.bin .mod (.bi .int_ (.cons (.slot 0) .nil)) (.lit (.int 10)))))
  .nil))
def b_law_edit : Ss := (.cons (.ife (.and_ (.cmp .eq (.bin .mod (.bi .int_ (.cons (.slot 0) .nil)) (.lit (.int 4))) (.lit (.int 0))) (.cmp .eq (.bin .mod (.bin .fdiv (.bi .int_ (.cons (.slot 0) .nil)) (.lit (.int 4))) (.lit (.int 7))) (.lit (.int 3))))
  (.cons (.ret (.tup (.cons (.lit (.str s_put)) (.cons (.call 16 (.cons (.bin .fdiv (.bi .int_ (.cons (.slot 0) .nil)) (.lit (.int 28))) .nil)) .nil))))
  .nil)
  .nil)
  (.cons (.ife (.cmp .lt (.bin .mod (.bi .int_ (.cons (.slot 0) .nil)) (.lit (.int 4))) (.lit (.int 2)))
  (.cons (.ret (.tup (.cons (.lit (.str s_put)) (.cons (.idx (.call 15 (.cons (.bin .fdiv (.bi .int_ (.cons (.slot 0) .nil)) (.lit (.int 4))) .nil)) (.lit (.int 2))) .nil))))
  .nil)
  .nil)
  (.cons (.ife (.cmp .eq (.bin .mod (.bi .int_ (.cons (.slot 0) .nil)) (.lit (.int 4))) (.lit (.int 2)))
  (.cons (.asg 1 (.call 15 (.cons (.bin .fdiv (.bi .int_ (.cons (.slot 0) .nil)) (.lit (.int 4))) .nil)))
  (.cons (.ife (.cmp .eq (.bin .mod (.bin .fdiv (.bi .int_ (.cons (.slot 0) .nil)) (.lit (.int 4))) (.lit (.int 11))) (.lit (.int 10)))
  (.cons (.ret (.tup (.cons (.lit (.str s_drop)) (.cons (.lit (.str s_end)) (.cons (.idx (.slot 1) (.lit (.int 1))) .nil)))))
  .nil)
  .nil)
  (.cons (.ret (.tup (.cons (.lit (.str s_drop)) (.cons (.idx (.slot 1) (.lit (.int 0))) (.cons (.idx (.slot 1) (.lit (.int 1))) .nil)))))
  .nil)))
  .nil)
  (.cons (.ret (.tup (.cons (.lit (.str s_switch)) (.cons (.bin .add (.lit (.str s_n)) (.bi .str_ (.cons (.bin .mod (.bin .fdiv (.bi .int_ (.cons (.slot 0) .nil)) (.lit (.int 4))) (.lit (.int 3))) .nil))) (.cons (.cmp .eq (.bin .mod (.bin .fdiv (.bi .int_ (.cons (.slot 0) .nil)) (.lit (.int 12))) (.lit (.int 2))) (.lit (.int 1))) .nil)))))
  .nil))))
def b_law_drawn : Ss := (.cons (.ife (.cmp .eq (.bin .mod (.bi .int_ (.cons (.slot 0) .nil)) (.lit (.int 5))) (.lit (.int 4)))
  (.cons (.ret (.tup (.cons (.lit (.str s_back)) (.cons (.bin .mod (.bin .fdiv (.slot 0) (.lit (.int 5))) (.lit (.int 65536))) .nil))))
  .nil)
  .nil)
  (.cons (.asg 1 (.call 17 (.cons (.bin .fdiv (.slot 0) (.lit (.int 5))) .nil)))
  (.cons (.ife (.and_ (.cmp .eq (.idx (.slot 1) (.lit (.int 0))) (.lit (.str s_drop))) (.cmp .eq (.idx (.slot 1) (.lit (.int 1))) (.lit (.str s_end))))
  (.cons (.ret (.tup (.cons (.lit (.str s_back)) (.cons (.lit (.int 0)) .nil))))
  .nil)
  .nil)
  (.cons (.ret (.slot 1))
  .nil))))
def b_law_line : Ss := (.cons (.ife (.cmp .eq (.idx (.slot 0) (.lit (.int 0))) (.lit (.str s_put)))
  (.cons (.ret (.bin .add (.lit (.str s_put_)) (.idx (.slot 0) (.lit (.int 1)))))
  .nil)
  .nil)
  (.cons (.ife (.cmp .eq (.idx (.slot 0) (.lit (.int 0))) (.lit (.str s_back)))
  (.cons (.ret (.bin .add (.lit (.str s_back_)) (.bi .str_ (.cons (.idx (.slot 0) (.lit (.int 1))) .nil))))
  .nil)
  .nil)
  (.cons (.ife (.cmp .eq (.idx (.slot 0) (.lit (.int 0))) (.lit (.str s_drop)))
  (.cons (.ret (.bin .add (.bin .add (.bin .add (.lit (.str s_drop_)) (.idx (.slot 0) (.lit (.int 1)))) (.lit (.str s__))) (.idx (.slot 0) (.lit (.int 2)))))
  .nil)
  .nil)
  (.cons (.ret (.bin .add (.bin .add (.bin .add (.lit (.str s_switch_)) (.idx (.slot 0) (.lit (.int 1)))) (.lit (.str s__))) (.idx (.tup (.cons (.lit (.str s_off)) (.cons (.lit (.str s_on)) .nil))) (.bi .int_ (.cons (.idx (.slot 0) (.lit (.int 2))) .nil)))))
  .nil))))
def b_law_same : Ss := (.cons (.ife (.or_ (.not_ (.isi (.slot 0) [.tuple_])) (.or_ (.cmp .ne (.bi .len (.cons (.slot 0) .nil)) (.bi .len (.cons (.slot 1) .nil))) (.cmp .ne (.slot 0) (.slot 1))))
  (.cons (.ret (.lit (.bl false)))
  .nil)
  .nil)
  (.cons (.ife (.cmp .eq (.idx (.slot 1) (.lit (.int 0))) (.lit (.str s_back)))
  (.cons (.ret (.call 11 (.cons (.idx (.slot 0) (.lit (.int 1))) .nil)))
  .nil)
  .nil)
  (.cons (.ret (.or_ (.cmp .ne (.idx (.slot 1) (.lit (.int 0))) (.lit (.str s_switch))) (.isi (.idx (.slot 0) (.lit (.int 2))) [.bool_])))
  .nil)))
def b_law_refused : Ss := (.cons (.tryE (.cons (.ex (.call 10 (.cons (.slot 0) .nil)))
  .nil) 0 2
  (.cons (.ife (.exi 2 [(.exc 2)])
  (.cons (.ret (.lit (.bl false)))
  .nil)
  .nil)
  (.cons (.ret (.and_ (.exi 2 [(.exc 1)]) (.and_ (.hcall 23 (.cons (.exf 2 4) .nil)) (.cmp .eq (.exf 2 4) (.slot 1)))))
  .nil)))
  (.cons (.ret (.lit (.bl false)))
  .nil))
def b_law : Ss := (.cons (.asg 1 (.lst (.cons (.tup (.cons (.lit (.str s_put)) (.cons (.lit (.int 1)) .nil))) (.cons (.tup (.cons (.lit (.str s_back_01)) (.cons (.lit (.int 1)) .nil))) (.cons (.tup (.cons (.lit (.str s_back_65536)) (.cons (.lit (.int 1)) .nil))) (.cons (.tup (.cons (.lit (.str s_drop_var_end)) (.cons (.lit (.int 2)) .nil))) (.cons (.tup (.cons (.lit (.str s_drop_n0_n0)) (.cons (.lit (.int 1)) .nil))) .nil)))))))
  (.cons (.asg 1 (.bin .add (.slot 1) (.lst (.cons (.tup (.cons (.lit (.str s_switch_x123456789012)) (.cons (.lit (.int 1)) .nil))) (.cons (.tup (.cons (.lit (.str s_switch_n0_up)) (.cons (.lit (.int 2)) .nil))) (.cons (.tup (.cons (.lit (.str s_back__1)) (.cons (.lit (.int 1)) .nil))) (.cons (.tup (.cons (.lit (.str s_drop_var_0n)) (.cons (.lit (.int 2)) .nil))) (.cons (.tup (.cons (.lit (.str s_)) (.cons (.lit (.int 0)) .nil))) .nil))))))))
  (.cons (.for_ (.tp [2]) (.seq (.slot 1))
  (.cons (.ife (.not_ (.call 21 (.cons (.idx (.slot 2) (.lit (.int 0))) (.cons (.idx (.slot 2) (.lit (.int 1))) .nil))))
  (.cons (.ret (.lit (.bl false)))
  .nil)
  .nil)
  .nil))
  (.cons (.ife (.or_ (.cmp .ne (.call 10 (.cons (.lit (.str s_put__x_)) .nil)) (.tup (.cons (.lit (.str s_put)) (.cons (.lit (.str s__x_)) .nil)))) (.cmp .ne (.call 10 (.cons (.lit (.str s_put_)) .nil)) (.tup (.cons (.lit (.str s_put)) (.cons (.lit (.str s_)) .nil)))))
  (.cons (.ret (.lit (.bl false)))
  .nil)
  .nil)
  (.cons (.for_ (.tp [3]) (.seq (.slot 0))
  (.cons (.asg 4 (.call 18 (.cons (.slot 3) .nil)))
  (.cons (.asg 5 (.call 19 (.cons (.slot 4) .nil)))
  (.cons (.ife (.or_ (.cmp .ne (.call 9 (.cons (.slot 4) .nil)) (.slot 5)) (.not_ (.call 20 (.cons (.call 10 (.cons (.slot 5) .nil)) (.cons (.slot 4) .nil)))))
  (.cons (.ret (.lit (.bl false)))
  .nil)
  .nil)
  (.cons (.ife (.cmp .ne (.idx (.slot 4) (.lit (.int 0))) (.lit (.str s_put)))
  (.cons (.asg 6 (.bm .split (.slot 5) (.cons (.lit (.str s__)) .nil)))
  (.cons (.ife (.not_ (.call 21 (.cons (.bm .join (.lit (.str s__)) (.cons (.slH (.slot 6) (.neg (.lit (.int 1)))) .nil)) (.cons (.bin .sub (.bi .len (.cons (.slot 6) .nil)) (.lit (.int 1))) .nil))))
  (.cons (.ret (.lit (.bl false)))
  .nil)
  .nil)
  (.cons (.ife (.or_ (.not_ (.call 21 (.cons (.bin .add (.slot 5) (.lit (.str s__on))) (.cons (.bi .len (.cons (.slot 6) .nil)) .nil)))) (.not_ (.call 21 (.cons (.bin .add (.slot 5) (.lit (.str s__))) (.cons (.bi .len (.cons (.slot 6) .nil)) .nil)))))
  (.cons (.ret (.lit (.bl false)))
  .nil)
  .nil)
  (.cons (.ife (.or_ (.not_ (.call 21 (.cons (.bin .add (.lit (.str s_x)) (.slot 5)) (.cons (.lit (.int 0)) .nil)))) (.not_ (.call 21 (.cons (.bin .add (.lit (.str s__)) (.slot 5)) (.cons (.lit (.int 0)) .nil)))))
  (.cons (.ret (.lit (.bl false)))
  .nil)
  .nil)
  (.cons (.ife (.not_ (.call 21 (.cons (.bin .add (.bin .add (.idx (.slot 6) (.lit (.int 0))) (.lit (.str s____))) (.bm .join (.lit (.str s__)) (.cons (.slL (.slot 6) (.lit (.int 2))) .nil))) (.cons (.lit (.int 1)) .nil))))
  (.cons (.ret (.lit (.bl false)))
  .nil)
  .nil)
  .nil)))))
  .nil)
  .nil)))))
  (.cons (.ret (.lit (.bl true)))
  .nil))))))
def b_h_law_is_integer : Ss := (.cons (.ret (.and_ (.isi (.slot 0) [.int_]) (.not_ (.isi (.slot 0) [.bool_]))))
  .nil)
def attrs : List Str := ["words", "options", "variables", "sees", "at", "moves", "branchings", "word", "take_name", "take_number", "take_new_name", "what"]
def d_split_words : Df where
  d := ⟨("split_words", none), "split_words", "split_words", L2.defArgs (top 11), L2.defBody (top 11), L2.defScope (top 11), [], []⟩
  ss := b_split_words
  N := ["text"]
  ps := ["text"]
def d_join_words : Df where
  d := ⟨("join_words", none), "join_words", "join_words", L2.defArgs (top 12), L2.defBody (top 12), L2.defScope (top 12), [], []⟩
  ss := b_join_words
  N := ["words"]
  ps := ["words"]
def d_is_name : Df where
  d := ⟨("is_name", none), "is_name", "is_name", L2.defArgs (top 13), L2.defBody (top 13), L2.defScope (top 13), [], []⟩
  ss := b_is_name
  N := ["word", "char"]
  ps := ["word"]
def d_number_of : Df where
  d := ⟨("number_of", none), "number_of", "number_of", L2.defArgs (top 14), L2.defBody (top 14), L2.defScope (top 14), [], []⟩
  ss := b_number_of
  N := ["word", "char", "number"]
  ps := ["word"]
def d_Cursor_init : Df where
  d := ⟨("Cursor", some "__init__"), "__init__", "Cursor.__init__", L2.defArgs (inClass (top 15) 0), L2.defBody (inClass (top 15) 0), L2.defScope (inClass (top 15) 0), [], [("options", (.adr (fun K => kdA K ("Cursor", some "__init__") "options"))), ("variables", (.adr (fun K => kdA K ("Cursor", some "__init__") "variables"))), ("sees", (.bl false))]⟩
  ss := b_Cursor_init
  N := ["self", "words", "options", "variables", "sees"]
  ps := ["self", "words", "options", "variables", "sees"]
def d_Cursor_word : Df where
  d := ⟨("Cursor", some "word"), "word", "Cursor.word", L2.defArgs (inClass (top 15) 1), L2.defBody (inClass (top 15) 1), L2.defScope (inClass (top 15) 1), [], []⟩
  ss := b_Cursor_word
  N := ["self"]
  ps := ["self"]
def d_Cursor_take_number : Df where
  d := ⟨("Cursor", some "take_number"), "take_number", "Cursor.take_number", L2.defArgs (inClass (top 15) 3), L2.defBody (inClass (top 15) 3), L2.defScope (inClass (top 15) 3), [], []⟩
  ss := b_Cursor_take_number
  N := ["self", "least", "most", "word", "number"]
  ps := ["self", "least", "most"]
def d_Cursor_take_name : Df where
  d := ⟨("Cursor", some "take_name"), "take_name", "Cursor.take_name", L2.defArgs (inClass (top 15) 4), L2.defBody (inClass (top 15) 4), L2.defScope (inClass (top 15) 4), [], []⟩
  ss := b_Cursor_take_name
  N := ["self", "names", "word"]
  ps := ["self", "names"]
def d_Cursor_take_new_name : Df where
  d := ⟨("Cursor", some "take_new_name"), "take_new_name", "Cursor.take_new_name", L2.defArgs (inClass (top 15) 5), L2.defBody (inClass (top 15) 5), L2.defScope (inClass (top 15) 5), [], []⟩
  ss := b_Cursor_take_new_name
  N := ["self", "names", "word"]
  ps := ["self", "names"]
def d_edit_text : Df where
  d := ⟨("edit_text", none), "edit_text", "edit_text", L2.defArgs (top 18), L2.defBody (top 18), L2.defScope (top 18), [], []⟩
  ss := b_edit_text
  N := ["change"]
  ps := ["change"]
def d_read_edit : Df where
  d := ⟨("read_edit", none), "read_edit", "read_edit", L2.defArgs (top 19), L2.defBody (top 19), L2.defScope (top 19), [], []⟩
  ss := b_read_edit
  N := ["line", "cursor", "kind", "change", "sort", "name"]
  ps := ["line"]
def d_law_is_integer : Df where
  d := ⟨("_law_is_integer", none), "_law_is_integer", "_law_is_integer", L2.defArgs (top 22), L2.defBody (top 22), L2.defScope (top 22), [], []⟩
  ss := b_law_is_integer
  N := ["_law_actual"]
  ps := ["_law_actual"]
def d_law_option : Df where
  d := ⟨("_law_option", none), "_law_option", "_law_option", L2.defArgs (top 23), L2.defBody (top 23), L2.defScope (top 23), [], []⟩
  ss := b_law_option
  N := ["_law_k", "_law_cell_here"]
  ps := ["_law_k", "_law_cell_here"]
def d_law_variable : Df where
  d := ⟨("_law_variable", none), "_law_variable", "_law_variable", L2.defArgs (top 24), L2.defBody (top 24), L2.defScope (top 24), [], []⟩
  ss := b_law_variable
  N := ["_law_k", "_law_cell_here"]
  ps := ["_law_k", "_law_cell_here"]
def d_law_round : Df where
  d := ⟨("_law_round", none), "_law_round", "_law_round", L2.defArgs (top 25), L2.defBody (top 25), L2.defScope (top 25), [], []⟩
  ss := b_law_round
  N := ["_law_k", "_law_cell_here", "_law_words"]
  ps := ["_law_k", "_law_cell_here"]
def d_law_piece : Df where
  d := ⟨("_law_piece", none), "_law_piece", "_law_piece", L2.defArgs (top 26), L2.defBody (top 26), L2.defScope (top 26), [], []⟩
  ss := b_law_piece
  N := ["_law_cell_here"]
  ps := ["_law_cell_here"]
def d_law_strange : Df where
  d := ⟨("_law_strange", none), "_law_strange", "_law_strange", L2.defArgs (top 35), L2.defBody (top 35), L2.defScope (top 35), [], []⟩
  ss := b_law_strange
  N := ["_law_cell_here", "_law_texts"]
  ps := ["_law_cell_here"]
def d_law_edit : Df where
  d := ⟨("_law_edit", none), "_law_edit", "_law_edit", L2.defArgs (top 36), L2.defBody (top 36), L2.defScope (top 36), [], []⟩
  ss := b_law_edit
  N := ["_law_cell_here", "_law_piece_here"]
  ps := ["_law_cell_here"]
def d_law_drawn : Df where
  d := ⟨("_law_drawn", none), "_law_drawn", "_law_drawn", L2.defArgs (top 39), L2.defBody (top 39), L2.defScope (top 39), [], []⟩
  ss := b_law_drawn
  N := ["_law_cell_here", "_law_edit_here"]
  ps := ["_law_cell_here"]
def d_law_line : Df where
  d := ⟨("_law_line", none), "_law_line", "_law_line", L2.defArgs (top 40), L2.defBody (top 40), L2.defScope (top 40), [], []⟩
  ss := b_law_line
  N := ["_law_edit_here"]
  ps := ["_law_edit_here"]
def d_law_same : Df where
  d := ⟨("_law_same", none), "_law_same", "_law_same", L2.defArgs (top 41), L2.defBody (top 41), L2.defScope (top 41), [], []⟩
  ss := b_law_same
  N := ["_law_actual", "_law_edit_here"]
  ps := ["_law_actual", "_law_edit_here"]
def d_law_refused : Df where
  d := ⟨("_law_refused", none), "_law_refused", "_law_refused", L2.defArgs (top 42), L2.defBody (top 42), L2.defScope (top 42), [], []⟩
  ss := b_law_refused
  N := ["_law_line_here", "_law_at", "e"]
  ps := ["_law_line_here", "_law_at"]
def d_law : Df where
  d := ⟨("law", none), "law", "law", L2.defArgs (top 43), L2.defBody (top 43), L2.defScope (top 43), [], []⟩
  ss := b_law
  N := ["_law_script", "_law_lines", "_law_row", "_law_cell_here", "_law_edit_here", "_law_line_here", "_law_words"]
  ps := ["_law_script"]
def d_h_law_is_integer : Df where
  d := ⟨("_law_is_integer", none), "_law_is_integer", "_law_is_integer", L2.defArgs (top 22), L2.defBody (top 22), L2.defScope (top 22), [], []⟩
  ss := b_h_law_is_integer
  N := ["_law_actual"]
  ps := ["_law_actual"]
def tb : Tb where
  frz := []
  ini := [4]
  mth := [((0, 9), 6), ((0, 8), 7), ((0, 10), 8)]
  prp := [((0, 7), 5)]
  gl := [("LETTERS", (.str s_abcdefghijklmnopqrst)), ("DIGITS", (.str s_0123456789)), ("LONGEST_NAME", (.int 12)), ("GREATEST", (.int 65535)), ("KEYWORDS", (.tup [(.str s_option), (.str s_on), (.str s_off), (.str s_var), (.str s_round), (.str s_end), (.str s_set), (.str s_if), (.str s_else), (.str s_when), (.str s_draw), (.str s_first), (.str s_second), (.str s_show), (.str s_both), (.str s_pay), (.str s_take), (.str s_pick), (.str s_mod), (.str s_player), (.str s_keep), (.str s_lot), (.str s_while), (.str s_answer), (.str s_view), (.str s_long)])), ("SORTS", (.tup [(.str s_option), (.str s_var), (.str s_round)]))]
  kd := []
  brw := []
  dfl := [((4, 2), [(.tup []), (.tup []), (.bl false)]), ((4, 3), [.non, .non, .non, .non, .non, .non]), ((4, 4), [.non, .non, .non, .non, .non, .non]), ((4, 5), [.non, .non, .non, .non, .non, .non])]
  kw := []
  fld := [(0, 0), (0, 1), (0, 2), (0, 3), (0, 4), (0, 5), (0, 6)]
  isa := [((.bool_, .bool_), true), ((.bool_, .int_), true), ((.bool_, .str_), false), ((.bool_, .list_), false), ((.bool_, .tuple_), false), ((.int_, .bool_), false), ((.int_, .int_), true), ((.int_, .str_), false), ((.int_, .list_), false), ((.int_, .tuple_), false), ((.str_, .bool_), false), ((.str_, .int_), false), ((.str_, .str_), true), ((.str_, .list_), false), ((.str_, .tuple_), false), ((.list_, .bool_), false), ((.list_, .int_), false), ((.list_, .str_), false), ((.list_, .list_), true), ((.list_, .tuple_), false), ((.tuple_, .bool_), false), ((.tuple_, .int_), false), ((.tuple_, .str_), false), ((.tuple_, .list_), false), ((.tuple_, .tuple_), true), ((.dict_, .bool_), false), ((.dict_, .int_), false), ((.dict_, .str_), false), ((.dict_, .list_), false), ((.dict_, .tuple_), false), ((.non_, .bool_), false), ((.non_, .int_), false), ((.non_, .str_), false), ((.non_, .list_), false), ((.non_, .tuple_), false), ((.cls 0, .bool_), false), ((.cls 0, .int_), false), ((.cls 0, .str_), false), ((.cls 0, .list_), false), ((.cls 0, .tuple_), false), ((.cls 0, .cls 0), true), ((.exc 1, .exc 0), true), ((.exc 1, .exc 1), true), ((.exc 1, .exc 2), false), ((.exc 2, .exc 0), true), ((.exc 2, .exc 1), false), ((.exc 2, .exc 2), true)]
  exf := [0, 4, 11]
  exm := [((1, 0), true), ((1, 1), true), ((1, 2), false), ((2, 0), true), ((2, 1), false), ((2, 2), true)]
  fn := [some "split_words", some "join_words", some "is_name", some "number_of", none, none, none, none, none, some "edit_text", some "read_edit", some "_law_is_integer", some "_law_option", some "_law_variable", some "_law_round", some "_law_piece", some "_law_strange", some "_law_edit", some "_law_drawn", some "_law_line", some "_law_same", some "_law_refused", some "law", none]
  cn := ["Cursor"]
  en := ["GameError", "BadText", "BadEdit"]
  rn := [false, true, true]
  an := attrs
  hot := [(23, "_law_is_integer")]
  dfs := [d_split_words, d_join_words, d_is_name, d_number_of, d_Cursor_init, d_Cursor_word, d_Cursor_take_number, d_Cursor_take_name, d_Cursor_take_new_name, d_edit_text, d_read_edit, d_law_is_integer, d_law_option, d_law_variable, d_law_round, d_law_piece, d_law_strange, d_law_edit, d_law_drawn, d_law_line, d_law_same, d_law_refused, d_law, d_h_law_is_integer]
  dfv := [((fun K => kdA K ("Cursor", some "__init__") "options"), (.tup [])), ((fun K => kdA K ("Cursor", some "__init__") "variables"), (.tup []))]

end Q


set_option Elab.async false
set_option linter.all false
set_option autoImplicit false
set_option maxRecDepth 100000
set_option maxHeartbeats 4000000
namespace Q
open PySem L2 Z
abbrev Cl (k : Nat) : Call := callN tb.P tb.T k
theorem c_split_words (k : Nat) (x0 : D) (M : Sto) : callA tb.P (Cl (k + 1)) 0 [x0] M = endZ (evSs tb.P (Cl k) b_split_words [.val x0] M) := rfl
theorem z6d : tb.P.dfl 0 0 = [] := rfl
theorem z6e : tb.P.dfl 0 1 = [] := rfl
theorem c_join_words (k : Nat) (x0 : D) (M : Sto) : callA tb.P (Cl (k + 1)) 1 [x0] M = endZ (evSs tb.P (Cl k) b_join_words [.val x0] M) := rfl
theorem z4a : tb.P.dfl 1 0 = [] := rfl
theorem z4b : tb.P.dfl 1 1 = [] := rfl
theorem c_is_name (k : Nat) (x0 : D) (M : Sto) : callA tb.P (Cl (k + 1)) 2 [x0] M = endZ (evSs tb.P (Cl k) b_is_name [.val x0, .non] M) := rfl
theorem z48 : tb.P.dfl 2 0 = [] := rfl
theorem z49 : tb.P.dfl 2 1 = [] := rfl
theorem c_number_of (k : Nat) (x0 : D) (M : Sto) : callA tb.P (Cl (k + 1)) 3 [x0] M = endZ (evSs tb.P (Cl k) b_number_of [.val x0, .non, .non] M) := rfl
theorem z69 : tb.P.dfl 3 0 = [] := rfl
theorem z6a : tb.P.dfl 3 1 = [] := rfl
theorem c_Cursor_init (k : Nat) (x0 x1 x2 x3 x4 : D) (M : Sto) : callA tb.P (Cl (k + 1)) 4 [x0, x1, x2, x3, x4] M = endZ (evSs tb.P (Cl k) b_Cursor_init [.val x0, .val x1, .val x2, .val x3, .val x4] M) := rfl
theorem z32 : tb.P.dfl 4 0 = [] := rfl
theorem z33 : tb.P.dfl 4 1 = [] := rfl
theorem z34 : tb.P.dfl 4 2 = [(.tup []), (.tup []), (.bl false)] := rfl
theorem z35 : tb.P.dfl 4 3 = [.non, .non, .non, .non, .non, .non] := rfl
theorem z36 : tb.P.dfl 4 4 = [.non, .non, .non, .non, .non, .non] := rfl
theorem z37 : tb.P.dfl 4 5 = [.non, .non, .non, .non, .non, .non] := rfl
theorem c_Cursor_word (k : Nat) (x0 : D) (M : Sto) : callA tb.P (Cl (k + 1)) 5 [x0] M = endZ (evSs tb.P (Cl k) b_Cursor_word [.val x0] M) := rfl
theorem z42 : tb.P.dfl 5 0 = [] := rfl
theorem z43 : tb.P.dfl 5 1 = [] := rfl
theorem c_Cursor_take_number (k : Nat) (x0 x1 x2 : D) (M : Sto) : callA tb.P (Cl (k + 1)) 6 [x0, x1, x2] M = endZ (evSs tb.P (Cl k) b_Cursor_take_number [.val x0, .val x1, .val x2, .non, .non] M) := rfl
theorem z3e : tb.P.dfl 6 0 = [] := rfl
theorem z3f : tb.P.dfl 6 1 = [] := rfl
theorem z40 : tb.P.dfl 6 2 = [] := rfl
theorem z41 : tb.P.dfl 6 3 = [] := rfl
theorem c_Cursor_take_name (k : Nat) (x0 x1 : D) (M : Sto) : callA tb.P (Cl (k + 1)) 7 [x0, x1] M = endZ (evSs tb.P (Cl k) b_Cursor_take_name [.val x0, .val x1, .non] M) := rfl
theorem z38 : tb.P.dfl 7 0 = [] := rfl
theorem z39 : tb.P.dfl 7 1 = [] := rfl
theorem z3a : tb.P.dfl 7 2 = [] := rfl
theorem c_Cursor_take_new_name (k : Nat) (x0 x1 : D) (M : Sto) : callA tb.P (Cl (k + 1)) 8 [x0, x1] M = endZ (evSs tb.P (Cl k) b_Cursor_take_new_name [.val x0, .val x1, .non] M) := rfl
theorem z3b : tb.P.dfl 8 0 = [] := rfl
theorem z3c : tb.P.dfl 8 1 = [] := rfl
theorem z3d : tb.P.dfl 8 2 = [] := rfl
theorem c_edit_text (k : Nat) (x0 : D) (M : Sto) : callA tb.P (Cl (k + 1)) 9 [x0] M = endZ (evSs tb.P (Cl k) b_edit_text [.val x0] M) := rfl
theorem z44 : tb.P.dfl 9 0 = [] := rfl
theorem z45 : tb.P.dfl 9 1 = [] := rfl
theorem c_read_edit (k : Nat) (x0 : D) (M : Sto) : callA tb.P (Cl (k + 1)) 10 [x0] M = endZ (evSs tb.P (Cl k) b_read_edit [.val x0, .non, .non, .non, .non, .non] M) := rfl
theorem z6b : tb.P.dfl 10 0 = [] := rfl
theorem z6c : tb.P.dfl 10 1 = [] := rfl
theorem c_law_is_integer (k : Nat) (x0 : D) (M : Sto) : callA tb.P (Cl (k + 1)) 11 [x0] M = endZ (evSs tb.P (Cl k) b_law_is_integer [.val x0] M) := rfl
theorem z52 : tb.P.dfl 11 0 = [] := rfl
theorem z53 : tb.P.dfl 11 1 = [] := rfl
theorem c_law_option (k : Nat) (x0 x1 : D) (M : Sto) : callA tb.P (Cl (k + 1)) 12 [x0, x1] M = endZ (evSs tb.P (Cl k) b_law_option [.val x0, .val x1] M) := rfl
theorem z56 : tb.P.dfl 12 0 = [] := rfl
theorem z57 : tb.P.dfl 12 1 = [] := rfl
theorem z58 : tb.P.dfl 12 2 = [] := rfl
theorem c_law_variable (k : Nat) (x0 x1 : D) (M : Sto) : callA tb.P (Cl (k + 1)) 13 [x0, x1] M = endZ (evSs tb.P (Cl k) b_law_variable [.val x0, .val x1] M) := rfl
theorem z66 : tb.P.dfl 13 0 = [] := rfl
theorem z67 : tb.P.dfl 13 1 = [] := rfl
theorem z68 : tb.P.dfl 13 2 = [] := rfl
theorem c_law_round (k : Nat) (x0 x1 : D) (M : Sto) : callA tb.P (Cl (k + 1)) 14 [x0, x1] M = endZ (evSs tb.P (Cl k) b_law_round [.val x0, .val x1, .non] M) := rfl
theorem z5e : tb.P.dfl 14 0 = [] := rfl
theorem z5f : tb.P.dfl 14 1 = [] := rfl
theorem z60 : tb.P.dfl 14 2 = [] := rfl
theorem c_law_piece (k : Nat) (x0 : D) (M : Sto) : callA tb.P (Cl (k + 1)) 15 [x0] M = endZ (evSs tb.P (Cl k) b_law_piece [.val x0] M) := rfl
theorem z59 : tb.P.dfl 15 0 = [] := rfl
theorem z5a : tb.P.dfl 15 1 = [] := rfl
theorem c_law_strange (k : Nat) (x0 : D) (M : Sto) : callA tb.P (Cl (k + 1)) 16 [x0] M = endZ (evSs tb.P (Cl k) b_law_strange [.val x0, .non] M) := rfl
theorem z64 : tb.P.dfl 16 0 = [] := rfl
theorem z65 : tb.P.dfl 16 1 = [] := rfl
theorem c_law_edit (k : Nat) (x0 : D) (M : Sto) : callA tb.P (Cl (k + 1)) 17 [x0] M = endZ (evSs tb.P (Cl k) b_law_edit [.val x0, .non] M) := rfl
theorem z50 : tb.P.dfl 17 0 = [] := rfl
theorem z51 : tb.P.dfl 17 1 = [] := rfl
theorem c_law_drawn (k : Nat) (x0 : D) (M : Sto) : callA tb.P (Cl (k + 1)) 18 [x0] M = endZ (evSs tb.P (Cl k) b_law_drawn [.val x0, .non] M) := rfl
theorem z4e : tb.P.dfl 18 0 = [] := rfl
theorem z4f : tb.P.dfl 18 1 = [] := rfl
theorem c_law_line (k : Nat) (x0 : D) (M : Sto) : callA tb.P (Cl (k + 1)) 19 [x0] M = endZ (evSs tb.P (Cl k) b_law_line [.val x0] M) := rfl
theorem z54 : tb.P.dfl 19 0 = [] := rfl
theorem z55 : tb.P.dfl 19 1 = [] := rfl
theorem c_law_same (k : Nat) (x0 x1 : D) (M : Sto) : callA tb.P (Cl (k + 1)) 20 [x0, x1] M = endZ (evSs tb.P (Cl k) b_law_same [.val x0, .val x1] M) := rfl
theorem z61 : tb.P.dfl 20 0 = [] := rfl
theorem z62 : tb.P.dfl 20 1 = [] := rfl
theorem z63 : tb.P.dfl 20 2 = [] := rfl
theorem c_law_refused (k : Nat) (x0 x1 : D) (M : Sto) : callA tb.P (Cl (k + 1)) 21 [x0, x1] M = endZ (evSs tb.P (Cl k) b_law_refused [.val x0, .val x1, .non] M) := rfl
theorem z5b : tb.P.dfl 21 0 = [] := rfl
theorem z5c : tb.P.dfl 21 1 = [] := rfl
theorem z5d : tb.P.dfl 21 2 = [] := rfl
theorem c_law (k : Nat) (x0 : D) (M : Sto) : callA tb.P (Cl (k + 1)) 22 [x0] M = endZ (evSs tb.P (Cl k) b_law [.val x0, .non, .non, .non, .non, .non, .non] M) := rfl
theorem z4c : tb.P.dfl 22 0 = [] := rfl
theorem z4d : tb.P.dfl 22 1 = [] := rfl
theorem c_h_law_is_integer (k : Nat) (x0 : D) (M : Sto) : callA tb.P (Cl (k + 1)) 23 [x0] M = endZ (evSs tb.P (Cl k) b_h_law_is_integer [.val x0] M) := rfl
theorem z46 : tb.P.dfl 23 0 = [] := rfl
theorem z47 : tb.P.dfl 23 1 = [] := rfl
theorem z82 : tb.P.fld 0 0 = true := rfl
theorem z83 : tb.P.fld 0 1 = true := rfl
theorem z84 : tb.P.fld 0 2 = true := rfl
theorem z85 : tb.P.fld 0 3 = true := rfl
theorem z86 : tb.P.fld 0 4 = true := rfl
theorem z87 : tb.P.fld 0 5 = true := rfl
theorem z88 : tb.P.fld 0 6 = true := rfl
theorem zbc : tb.P.mth 0 9 = some 6 := rfl
theorem zbb : tb.P.mth 0 8 = some 7 := rfl
theorem zba : tb.P.mth 0 10 = some 8 := rfl
theorem t_prp_0_7 : tb.P.prp 0 7 = some 5 := rfl
theorem z8a : tb.P.ini 0 = 4 := rfl
theorem z89 : tb.P.frz 0 = false := rfl
theorem z7a : tb.P.exf 1 = 4 := rfl
theorem z7b : tb.P.exf 2 = 11 := rfl
theorem z7c : tb.P.exm 1 0 = some true := rfl
theorem z7d : tb.P.exm 1 1 = some true := rfl
theorem z7e : tb.P.exm 1 2 = some false := rfl
theorem z7f : tb.P.exm 2 0 = some true := rfl
theorem z80 : tb.P.exm 2 1 = some false := rfl
theorem z81 : tb.P.exm 2 2 = some true := rfl
theorem z8b : tb.P.isa (.bool_) (.bool_) = some true := rfl
theorem z8c : tb.P.isa (.bool_) (.int_) = some true := rfl
theorem z97 : tb.P.isa (.bool_) (.str_) = some false := rfl
theorem za2 : tb.P.isa (.bool_) (.list_) = some false := rfl
theorem zad : tb.P.isa (.bool_) (.tuple_) = some false := rfl
theorem zb5 : tb.P.isa (.int_) (.bool_) = some false := rfl
theorem zb6 : tb.P.isa (.int_) (.int_) = some true := rfl
theorem zb7 : tb.P.isa (.int_) (.str_) = some false := rfl
theorem zb8 : tb.P.isa (.int_) (.list_) = some false := rfl
theorem zb9 : tb.P.isa (.int_) (.tuple_) = some false := rfl
theorem z8d : tb.P.isa (.str_) (.bool_) = some false := rfl
theorem z8e : tb.P.isa (.str_) (.int_) = some false := rfl
theorem z8f : tb.P.isa (.str_) (.str_) = some true := rfl
theorem z90 : tb.P.isa (.str_) (.list_) = some false := rfl
theorem z91 : tb.P.isa (.str_) (.tuple_) = some false := rfl
theorem z92 : tb.P.isa (.list_) (.bool_) = some false := rfl
theorem z93 : tb.P.isa (.list_) (.int_) = some false := rfl
theorem z94 : tb.P.isa (.list_) (.str_) = some false := rfl
theorem z95 : tb.P.isa (.list_) (.list_) = some true := rfl
theorem z96 : tb.P.isa (.list_) (.tuple_) = some false := rfl
theorem z98 : tb.P.isa (.tuple_) (.bool_) = some false := rfl
theorem z99 : tb.P.isa (.tuple_) (.int_) = some false := rfl
theorem z9a : tb.P.isa (.tuple_) (.str_) = some false := rfl
theorem z9b : tb.P.isa (.tuple_) (.list_) = some false := rfl
theorem z9c : tb.P.isa (.tuple_) (.tuple_) = some true := rfl
theorem z9d : tb.P.isa (.dict_) (.bool_) = some false := rfl
theorem z9e : tb.P.isa (.dict_) (.int_) = some false := rfl
theorem z9f : tb.P.isa (.dict_) (.str_) = some false := rfl
theorem za0 : tb.P.isa (.dict_) (.list_) = some false := rfl
theorem za1 : tb.P.isa (.dict_) (.tuple_) = some false := rfl
theorem za3 : tb.P.isa (.non_) (.bool_) = some false := rfl
theorem za4 : tb.P.isa (.non_) (.int_) = some false := rfl
theorem za5 : tb.P.isa (.non_) (.str_) = some false := rfl
theorem za6 : tb.P.isa (.non_) (.list_) = some false := rfl
theorem za7 : tb.P.isa (.non_) (.tuple_) = some false := rfl
theorem za8 : tb.P.isa (.cls 0) (.bool_) = some false := rfl
theorem za9 : tb.P.isa (.cls 0) (.int_) = some false := rfl
theorem zaa : tb.P.isa (.cls 0) (.str_) = some false := rfl
theorem zab : tb.P.isa (.cls 0) (.list_) = some false := rfl
theorem zac : tb.P.isa (.cls 0) (.tuple_) = some false := rfl
theorem zae : tb.P.isa (.cls 0) (.cls 0) = some true := rfl
theorem zaf : tb.P.isa (.exc 1) (.exc 0) = some true := rfl
theorem zb0 : tb.P.isa (.exc 1) (.exc 1) = some true := rfl
theorem zb1 : tb.P.isa (.exc 1) (.exc 2) = some false := rfl
theorem zb2 : tb.P.isa (.exc 2) (.exc 0) = some true := rfl
theorem zb3 : tb.P.isa (.exc 2) (.exc 1) = some false := rfl
theorem zb4 : tb.P.isa (.exc 2) (.exc 2) = some true := rfl
end Q


set_option Elab.async false
set_option linter.all false
set_option autoImplicit false
set_option maxRecDepth 100000
set_option maxHeartbeats 4000000
namespace Q
open PySem L2 Z
abbrev W := List Nat
def nms (l : List W) : List D := l.map D.str
theorem nms_p : ∀ l : List W, pures (nms l) = true ∧ deps (nms l) = 0
  | [] => ⟨rfl, rfl⟩
  | x :: l => by
    obtain ⟨h1, h2⟩ := nms_p l
    unfold nms at h1 h2 ⊢
    exact ⟨by simp [pures, h1, Z.pure], by simp [deps, h2, dep]⟩
theorem inD_nms (s : W) (l : List W) : inD (.str s) (nms l) = decide (s ∈ l) := by
  unfold inD nms
  rw [List.any_map]
  induction l with
  | nil => rfl
  | cons t l ih =>
    rw [List.any_cons, ih]
    show (eqD (.str t) (.str s) || _) = _
    rw [eqD]
    by_cases h : t = s
    · simp [h]
    · have h2 : ¬ s = t := fun e => h e.symm
      simp [h, h2]
theorem flat_nms : ∀ l : List W, (nms l).all flat = true
  | [] => rfl
  | x :: l => by
    show (flat (.str x) && (nms l).all flat) = true
    rw [flat_nms l]; rfl
theorem opIn_t (s : W) (l : List W) (M : Sto) : opIn (.str s) (.tup (nms l)) M = some (decide (s ∈ l)) := by
  show (if flat (.str s) && (nms l).all flat then some (inD (.str s) (nms l)) else none) = _
  rw [flat_nms, inD_nms]; rfl
/- names, numbers -/
def keyW : List W := [s_option, s_on, s_off, s_var, s_round, s_end, s_set, s_if, s_else, s_when, s_draw, s_first, s_second, s_show, s_both, s_pay, s_take, s_pick, s_mod, s_player, s_keep, s_lot, s_while, s_answer, s_view, s_long]
def letW : W := s_abcdefghijklmnopqrst
def digW : W := s_0123456789
def isN (w : W) : Bool := !decide (w ∈ keyW) && (decide (1 ≤ w.length) && decide (w.length ≤ 12)) && decide (w.headD 0 ∈ letW) && w.all fun c => decide (c ∈ letW) || decide (c ∈ digW)
theorem gl_key : tb.P.gl 4 = .tup (nms keyW) := rfl
theorem gl_let : tb.P.gl 0 = .str letW := rfl
theorem gl_dig : tb.P.gl 1 = .str digW := rfl
theorem gl_12 : tb.P.gl 2 = .int 12 := rfl
theorem gl_gr : tb.P.gl 3 = .int 65535 := rfl
def sortW : List W := [s_option, s_var, s_round]
theorem gl_so : tb.P.gl 5 = .tup (nms sortW) := rfl
theorem opIn_s (c : Nat) (w : W) (M : Sto) : opIn (.str [c]) (.str w) M = some (decide (c ∈ w)) := rfl
theorem bo_lr : "".length = 0 := rfl
def CI (w : W) (M : Sto) (ds : List D) (σ : List SV) (M' : Sto) : Prop := M' = M ∧ ∃ (dn rs : W) (x : SV), w = dn ++ rs ∧ ds = rs.map (fun c => D.str [c]) ∧ σ = [.val (.str w), x] ∧ (dn.all fun c => decide (c ∈ letW) || decide (c ∈ digW)) = true
theorem is_name_ok (q : Nat) (w : W) (hw : w.length ≤ 16777216) (M : Sto) : callA tb.P (Cl (q + 1)) 2 [.str w] M = .ok (.bl (isN w)) M := by
  apply WR.eqv
  rw [c_is_name, z8]
  unfold b_is_name
  have i1 := opIn_t w keyW
  by_cases hk : w ∈ keyW
  · have hk' : decide (w ∈ keyW) = true := by simpa using hk
    have hn : isN w = false := by unfold isN; rw [hk']; rfl
    rw [hk'] at i1
    simp (config := {maxSteps := 4000000, dsimp := false, implicitDefEqProofs := false}) [↓zd2, ↓ze0, ↓zc2, ↓zcc, ↓zc0, ↓zd7, ↓zd9, ↓zc5, ↓zc6, ↓zbd, ↓zda, ↓zd0, ↓zc3, ↓zc4, ↓zd5, ↓zd6, ↓zdb, ↓zbe, ↓zce, ↓zdf, ↓zde, ↓zdd, ↓zdc, ↓ze1, ↓zd3, ↓zd4, ↓zc8, ↓zbf, ↓zc1, ↓zcf, ↓zca, ↓zcb, ↓zd1, ↓zcd, ↓zc9, ↓zd8, ↓zc7, ↓w_compL_nil, ↓w_compL_cons, ↓ze4, ↓ze3, ↓ze2, ↓ze5, ↓z106, ↓z103, ↓z105, ↓z101, ↓z107, ↓z104, ↓z102, ↓ze8, ↓zf5, ↓zfd, ↓zf6, ↓zfb, ↓ze6, ↓zfc, ↓zf4, ↓ze9, ↓ze7, ↓zf2, ↓zed, ↓zf3, ↓zec, ↓zf1, ↓zee, ↓zef, ↓zfe, ↓zf9, ↓zfa, ↓zf8, ↓zf7, ↓zea, ↓zeb, ↓zf0, ↓z100, ↓zff, ↓z1q, ↓z1q', ↓z12, ↓z12', ↓z2a, ↓z2a', ↓z1c, ↓z7, ↓z15, ↓z21, ↓ze, ↓z19, ↓z26, ↓z3, ↓zc, ↓zd, ↓zf, ↓z27, ↓z8, WO_some, WO_none, IfO_true, IfO_false, z10, za, z0, z1a, z17, z11, z28, z29, z1d, z1f, z23, z1b, ↓z73, ↓z74, ↓z6f, ↓z71, ↓z72, ↓z31, ↓z30, ↓z2f, ↓z2c, ↓z2e, ↓z78, ↓z76, ↓z75, ↓z79, ↓z77, if_ok, if_bl, if_and, if_or, getV, getB, opBin, opCmp, opIdx, opCut, opBi, tru, look, look_r, eqD, eqDs, Z.pure, pures, dep, deps, put_m, put_nx, new_m, new_nx, putIx, putOwn, insOf, lkN, putL, putN, thaw, getO, ixOf, LIM, B64, asI, Z.b2, z6d, z6e, z4a, z4b, z48, z49, z69, z6a, z32, z33, z34, z35, z36, z37, z42, z43, z3e, z3f, z40, z41, z38, z39, z3a, z3b, z3c, z3d, z44, z45, z6b, z6c, z52, z53, z56, z57, z58, z66, z67, z68, z5e, z5f, z60, z59, z5a, z64, z65, z50, z51, z4e, z4f, z54, z55, z61, z62, z63, z5b, z5c, z5d, z4c, z4d, z46, z47, z82, z83, z84, z85, z86, z87, z88, zbc, zbb, zba, t_prp_0_7, z8a, z89, z7a, z7b, z7c, z7d, z7e, z7f, z80, z81, z8b, z8c, z97, za2, zad, zb5, zb6, zb7, zb8, zb9, z8d, z8e, z8f, z90, z91, z92, z93, z94, z95, z96, z98, z99, z9a, z9b, z9c, z9d, z9e, z9f, za0, za1, za3, za4, za5, za6, za7, za8, za9, zaa, zab, zac, zae, zaf, zb0, zb1, zb2, zb3, zb4, gl_key, i1, hn]
  have hk' : decide (w ∈ keyW) = false := by simpa using hk
  rw [hk'] at i1
  by_cases h1 : 1 ≤ w.length
  case neg =>
    have hn : isN w = false := by unfold isN; rw [hk']; simp [h1]
    have h1' : ¬ (1 : Int) ≤ (w.length : Int) := by omega
    have h0 : w = [] := List.length_eq_zero_iff.mp (by omega)
    subst h0
    simp (config := {maxSteps := 4000000, dsimp := false, implicitDefEqProofs := false}) [↓zd2, ↓ze0, ↓zc2, ↓zcc, ↓zc0, ↓zd7, ↓zd9, ↓zc5, ↓zc6, ↓zbd, ↓zda, ↓zd0, ↓zc3, ↓zc4, ↓zd5, ↓zd6, ↓zdb, ↓zbe, ↓zce, ↓zdf, ↓zde, ↓zdd, ↓zdc, ↓ze1, ↓zd3, ↓zd4, ↓zc8, ↓zbf, ↓zc1, ↓zcf, ↓zca, ↓zcb, ↓zd1, ↓zcd, ↓zc9, ↓zd8, ↓zc7, ↓w_compL_nil, ↓w_compL_cons, ↓ze4, ↓ze3, ↓ze2, ↓ze5, ↓z106, ↓z103, ↓z105, ↓z101, ↓z107, ↓z104, ↓z102, ↓ze8, ↓zf5, ↓zfd, ↓zf6, ↓zfb, ↓ze6, ↓zfc, ↓zf4, ↓ze9, ↓ze7, ↓zf2, ↓zed, ↓zf3, ↓zec, ↓zf1, ↓zee, ↓zef, ↓zfe, ↓zf9, ↓zfa, ↓zf8, ↓zf7, ↓zea, ↓zeb, ↓zf0, ↓z100, ↓zff, ↓z1q, ↓z1q', ↓z12, ↓z12', ↓z2a, ↓z2a', ↓z1c, ↓z7, ↓z15, ↓z21, ↓ze, ↓z19, ↓z26, ↓z3, ↓zc, ↓zd, ↓zf, ↓z27, ↓z8, WO_some, WO_none, IfO_true, IfO_false, z10, za, z0, z1a, z17, z11, z28, z29, z1d, z1f, z23, z1b, ↓z73, ↓z74, ↓z6f, ↓z71, ↓z72, ↓z31, ↓z30, ↓z2f, ↓z2c, ↓z2e, ↓z78, ↓z76, ↓z75, ↓z79, ↓z77, if_ok, if_bl, if_and, if_or, getV, getB, opBin, opCmp, opIdx, opCut, opBi, tru, look, look_r, eqD, eqDs, Z.pure, pures, dep, deps, put_m, put_nx, new_m, new_nx, putIx, putOwn, insOf, lkN, putL, putN, thaw, getO, ixOf, LIM, B64, asI, Z.b2, z6d, z6e, z4a, z4b, z48, z49, z69, z6a, z32, z33, z34, z35, z36, z37, z42, z43, z3e, z3f, z40, z41, z38, z39, z3a, z3b, z3c, z3d, z44, z45, z6b, z6c, z52, z53, z56, z57, z58, z66, z67, z68, z5e, z5f, z60, z59, z5a, z64, z65, z50, z51, z4e, z4f, z54, z55, z61, z62, z63, z5b, z5c, z5d, z4c, z4d, z46, z47, z82, z83, z84, z85, z86, z87, z88, zbc, zbb, zba, t_prp_0_7, z8a, z89, z7a, z7b, z7c, z7d, z7e, z7f, z80, z81, z8b, z8c, z97, za2, zad, zb5, zb6, zb7, zb8, zb9, z8d, z8e, z8f, z90, z91, z92, z93, z94, z95, z96, z98, z99, z9a, z9b, z9c, z9d, z9e, z9f, za0, za1, za3, za4, za5, za6, za7, za8, za9, zaa, zab, zac, zae, zaf, zb0, zb1, zb2, zb3, zb4, gl_key, i1, hn]
  by_cases h2 : w.length ≤ 12
  case neg =>
    have hn : isN w = false := by unfold isN; rw [hk']; simp [h2]
    have h1' : (1 : Int) ≤ (w.length : Int) := by omega
    have h2' : ¬ (w.length : Int) ≤ 12 := by omega
    simp (config := {maxSteps := 4000000, dsimp := false, implicitDefEqProofs := false}) [↓zd2, ↓ze0, ↓zc2, ↓zcc, ↓zc0, ↓zd7, ↓zd9, ↓zc5, ↓zc6, ↓zbd, ↓zda, ↓zd0, ↓zc3, ↓zc4, ↓zd5, ↓zd6, ↓zdb, ↓zbe, ↓zce, ↓zdf, ↓zde, ↓zdd, ↓zdc, ↓ze1, ↓zd3, ↓zd4, ↓zc8, ↓zbf, ↓zc1, ↓zcf, ↓zca, ↓zcb, ↓zd1, ↓zcd, ↓zc9, ↓zd8, ↓zc7, ↓w_compL_nil, ↓w_compL_cons, ↓ze4, ↓ze3, ↓ze2, ↓ze5, ↓z106, ↓z103, ↓z105, ↓z101, ↓z107, ↓z104, ↓z102, ↓ze8, ↓zf5, ↓zfd, ↓zf6, ↓zfb, ↓ze6, ↓zfc, ↓zf4, ↓ze9, ↓ze7, ↓zf2, ↓zed, ↓zf3, ↓zec, ↓zf1, ↓zee, ↓zef, ↓zfe, ↓zf9, ↓zfa, ↓zf8, ↓zf7, ↓zea, ↓zeb, ↓zf0, ↓z100, ↓zff, ↓z1q, ↓z1q', ↓z12, ↓z12', ↓z2a, ↓z2a', ↓z1c, ↓z7, ↓z15, ↓z21, ↓ze, ↓z19, ↓z26, ↓z3, ↓zc, ↓zd, ↓zf, ↓z27, ↓z8, WO_some, WO_none, IfO_true, IfO_false, z10, za, z0, z1a, z17, z11, z28, z29, z1d, z1f, z23, z1b, ↓z73, ↓z74, ↓z6f, ↓z71, ↓z72, ↓z31, ↓z30, ↓z2f, ↓z2c, ↓z2e, ↓z78, ↓z76, ↓z75, ↓z79, ↓z77, if_ok, if_bl, if_and, if_or, getV, getB, opBin, opCmp, opIdx, opCut, opBi, tru, look, look_r, eqD, eqDs, Z.pure, pures, dep, deps, put_m, put_nx, new_m, new_nx, putIx, putOwn, insOf, lkN, putL, putN, thaw, getO, ixOf, LIM, B64, asI, Z.b2, z6d, z6e, z4a, z4b, z48, z49, z69, z6a, z32, z33, z34, z35, z36, z37, z42, z43, z3e, z3f, z40, z41, z38, z39, z3a, z3b, z3c, z3d, z44, z45, z6b, z6c, z52, z53, z56, z57, z58, z66, z67, z68, z5e, z5f, z60, z59, z5a, z64, z65, z50, z51, z4e, z4f, z54, z55, z61, z62, z63, z5b, z5c, z5d, z4c, z4d, z46, z47, z82, z83, z84, z85, z86, z87, z88, zbc, zbb, zba, t_prp_0_7, z8a, z89, z7a, z7b, z7c, z7d, z7e, z7f, z80, z81, z8b, z8c, z97, za2, zad, zb5, zb6, zb7, zb8, zb9, z8d, z8e, z8f, z90, z91, z92, z93, z94, z95, z96, z98, z99, z9a, z9b, z9c, z9d, z9e, z9f, za0, za1, za3, za4, za5, za6, za7, za8, za9, zaa, zab, zac, zae, zaf, zb0, zb1, zb2, zb3, zb4, gl_key, i1, hn, gl_12, h1', h2', hw]
  obtain ⟨c, r, rfl⟩ : ∃ c r, w = c :: r := by cases w with | nil => simp at h1 | cons c r => exact ⟨c, r, rfl⟩
  have h1' : (1 : Int) ≤ (r.length : Int) + 1 := by omega
  have h2' : (r.length : Int) + 1 ≤ 12 := by simp at h2; omega
  have hw2 : r.length + 1 ≤ 16777216 := by simpa using hw
  have j1 := opIn_s c letW
  have h0l : (0 : Int) < (r.length : Int) + 1 := by omega
  by_cases hc : c ∈ letW
  case neg =>
    have hc' : decide (c ∈ letW) = false := by simpa using hc
    have hn : isN (c :: r) = false := by unfold isN; rw [hk']; simp [hc]
    rw [hc'] at j1
    simp (config := {maxSteps := 4000000, dsimp := false, implicitDefEqProofs := false}) [↓zd2, ↓ze0, ↓zc2, ↓zcc, ↓zc0, ↓zd7, ↓zd9, ↓zc5, ↓zc6, ↓zbd, ↓zda, ↓zd0, ↓zc3, ↓zc4, ↓zd5, ↓zd6, ↓zdb, ↓zbe, ↓zce, ↓zdf, ↓zde, ↓zdd, ↓zdc, ↓ze1, ↓zd3, ↓zd4, ↓zc8, ↓zbf, ↓zc1, ↓zcf, ↓zca, ↓zcb, ↓zd1, ↓zcd, ↓zc9, ↓zd8, ↓zc7, ↓w_compL_nil, ↓w_compL_cons, ↓ze4, ↓ze3, ↓ze2, ↓ze5, ↓z106, ↓z103, ↓z105, ↓z101, ↓z107, ↓z104, ↓z102, ↓ze8, ↓zf5, ↓zfd, ↓zf6, ↓zfb, ↓ze6, ↓zfc, ↓zf4, ↓ze9, ↓ze7, ↓zf2, ↓zed, ↓zf3, ↓zec, ↓zf1, ↓zee, ↓zef, ↓zfe, ↓zf9, ↓zfa, ↓zf8, ↓zf7, ↓zea, ↓zeb, ↓zf0, ↓z100, ↓zff, ↓z1q, ↓z1q', ↓z12, ↓z12', ↓z2a, ↓z2a', ↓z1c, ↓z7, ↓z15, ↓z21, ↓ze, ↓z19, ↓z26, ↓z3, ↓zc, ↓zd, ↓zf, ↓z27, ↓z8, WO_some, WO_none, IfO_true, IfO_false, z10, za, z0, z1a, z17, z11, z28, z29, z1d, z1f, z23, z1b, ↓z73, ↓z74, ↓z6f, ↓z71, ↓z72, ↓z31, ↓z30, ↓z2f, ↓z2c, ↓z2e, ↓z78, ↓z76, ↓z75, ↓z79, ↓z77, if_ok, if_bl, if_and, if_or, getV, getB, opBin, opCmp, opIdx, opCut, opBi, tru, look, look_r, eqD, eqDs, Z.pure, pures, dep, deps, put_m, put_nx, new_m, new_nx, putIx, putOwn, insOf, lkN, putL, putN, thaw, getO, ixOf, LIM, B64, asI, Z.b2, z6d, z6e, z4a, z4b, z48, z49, z69, z6a, z32, z33, z34, z35, z36, z37, z42, z43, z3e, z3f, z40, z41, z38, z39, z3a, z3b, z3c, z3d, z44, z45, z6b, z6c, z52, z53, z56, z57, z58, z66, z67, z68, z5e, z5f, z60, z59, z5a, z64, z65, z50, z51, z4e, z4f, z54, z55, z61, z62, z63, z5b, z5c, z5d, z4c, z4d, z46, z47, z82, z83, z84, z85, z86, z87, z88, zbc, zbb, zba, t_prp_0_7, z8a, z89, z7a, z7b, z7c, z7d, z7e, z7f, z80, z81, z8b, z8c, z97, za2, zad, zb5, zb6, zb7, zb8, zb9, z8d, z8e, z8f, z90, z91, z92, z93, z94, z95, z96, z98, z99, z9a, z9b, z9c, z9d, z9e, z9f, za0, za1, za3, za4, za5, za6, za7, za8, za9, zaa, zab, zac, zae, zaf, zb0, zb1, zb2, zb3, zb4, gl_key, i1, hn, gl_12, h1', h2', hw2, gl_let, j1, h0l]
  have hc' : decide (c ∈ letW) = true := by simpa using hc
  rw [hc'] at j1
  have hn : isN (c :: r) = ((c :: r).all fun c => decide (c ∈ letW) || decide (c ∈ digW)) := by
    unfold isN; rw [hk']
    simp only [List.length_cons] at h1 h2
    simp [h2, hc]
  rw [hn]
  simp (config := {maxSteps := 4000000, dsimp := false, implicitDefEqProofs := false}) [↓zd2, ↓ze0, ↓zc2, ↓zcc, ↓zc0, ↓zd7, ↓zd9, ↓zc5, ↓zc6, ↓zbd, ↓zda, ↓zd0, ↓zc3, ↓zc4, ↓zd5, ↓zd6, ↓zdb, ↓zbe, ↓zce, ↓zdf, ↓zde, ↓zdd, ↓zdc, ↓ze1, ↓zd3, ↓zd4, ↓zc8, ↓zbf, ↓zc1, ↓zcf, ↓zca, ↓zcb, ↓zd1, ↓zcd, ↓zc9, ↓zd8, ↓zc7, ↓w_compL_nil, ↓w_compL_cons, ↓ze4, ↓ze3, ↓ze2, ↓ze5, ↓z106, ↓z103, ↓z105, ↓z101, ↓z107, ↓z104, ↓z102, ↓ze8, ↓zf5, ↓zfd, ↓zf6, ↓zfb, ↓ze6, ↓zfc, ↓zf4, ↓ze9, ↓ze7, ↓zf2, ↓zed, ↓zf3, ↓zec, ↓zf1, ↓zee, ↓zef, ↓zfe, ↓zf9, ↓zfa, ↓zf8, ↓zf7, ↓zea, ↓zeb, ↓zf0, ↓z100, ↓zff, ↓z1q, ↓z1q', ↓z12, ↓z12', ↓z2a, ↓z2a', ↓z1c, ↓z7, ↓z15, ↓z21, ↓ze, ↓z19, ↓z26, ↓z3, ↓zc, ↓zd, ↓zf, ↓z27, ↓z8, WO_some, WO_none, IfO_true, IfO_false, z10, za, z0, z1a, z17, z11, z28, z29, z1d, z1f, z23, z1b, ↓z73, ↓z74, ↓z6f, ↓z71, ↓z72, ↓z31, ↓z30, ↓z2f, ↓z2c, ↓z2e, ↓z78, ↓z76, ↓z75, ↓z79, ↓z77, if_ok, if_bl, if_and, if_or, getV, getB, opBin, opCmp, opIdx, opCut, opBi, tru, look, look_r, eqD, eqDs, Z.pure, pures, dep, deps, put_m, put_nx, new_m, new_nx, putIx, putOwn, insOf, lkN, putL, putN, thaw, getO, ixOf, LIM, B64, asI, Z.b2, z6d, z6e, z4a, z4b, z48, z49, z69, z6a, z32, z33, z34, z35, z36, z37, z42, z43, z3e, z3f, z40, z41, z38, z39, z3a, z3b, z3c, z3d, z44, z45, z6b, z6c, z52, z53, z56, z57, z58, z66, z67, z68, z5e, z5f, z60, z59, z5a, z64, z65, z50, z51, z4e, z4f, z54, z55, z61, z62, z63, z5b, z5c, z5d, z4c, z4d, z46, z47, z82, z83, z84, z85, z86, z87, z88, zbc, zbb, zba, t_prp_0_7, z8a, z89, z7a, z7b, z7c, z7d, z7e, z7f, z80, z81, z8b, z8c, z97, za2, zad, zb5, zb6, zb7, zb8, zb9, z8d, z8e, z8f, z90, z91, z92, z93, z94, z95, z96, z98, z99, z9a, z9b, z9c, z9d, z9e, z9f, za0, za1, za3, za4, za5, za6, za7, za8, za9, zaa, zab, zac, zae, zaf, zb0, zb1, zb2, zb3, zb4, gl_key, i1, gl_12, h1', h2', hw2, gl_let, j1, h0l, seqI]
  show WS _ (forL [1] _ ((c :: r).map fun c => D.str [c]) _ _)
  generalize c :: r = w
  refine z24 (I := CI w M) ?_ ?_ _ _ _ ?_
  · rintro d ds σ M2 ⟨rfl, dn, rs, x, el, ed, rfl, ha⟩
    cases rs with
    | nil => cases ed
    | cons c rs =>
      cases ed
      refine ⟨_, rfl, ?_⟩
      have j1 := opIn_s c letW
      have j2 := opIn_s c digW
      by_cases k1 : c ∈ letW
      · have k1' : decide (c ∈ letW) = true := by simpa using k1
        rw [k1'] at j1
        simp (config := {maxSteps := 4000000, dsimp := false, implicitDefEqProofs := false}) [↓zd2, ↓ze0, ↓zc2, ↓zcc, ↓zc0, ↓zd7, ↓zd9, ↓zc5, ↓zc6, ↓zbd, ↓zda, ↓zd0, ↓zc3, ↓zc4, ↓zd5, ↓zd6, ↓zdb, ↓zbe, ↓zce, ↓zdf, ↓zde, ↓zdd, ↓zdc, ↓ze1, ↓zd3, ↓zd4, ↓zc8, ↓zbf, ↓zc1, ↓zcf, ↓zca, ↓zcb, ↓zd1, ↓zcd, ↓zc9, ↓zd8, ↓zc7, ↓w_compL_nil, ↓w_compL_cons, ↓ze4, ↓ze3, ↓ze2, ↓ze5, ↓z106, ↓z103, ↓z105, ↓z101, ↓z107, ↓z104, ↓z102, ↓ze8, ↓zf5, ↓zfd, ↓zf6, ↓zfb, ↓ze6, ↓zfc, ↓zf4, ↓ze9, ↓ze7, ↓zf2, ↓zed, ↓zf3, ↓zec, ↓zf1, ↓zee, ↓zef, ↓zfe, ↓zf9, ↓zfa, ↓zf8, ↓zf7, ↓zea, ↓zeb, ↓zf0, ↓z100, ↓zff, ↓z1q, ↓z1q', ↓z12, ↓z12', ↓z2a, ↓z2a', ↓z1c, ↓z7, ↓z15, ↓z21, ↓ze, ↓z19, ↓z26, ↓z3, ↓zc, ↓zd, ↓zf, ↓z27, ↓z8, WO_some, WO_none, IfO_true, IfO_false, z10, za, z0, z1a, z17, z11, z28, z29, z1d, z1f, z23, z1b, ↓z73, ↓z74, ↓z6f, ↓z71, ↓z72, ↓z31, ↓z30, ↓z2f, ↓z2c, ↓z2e, ↓z78, ↓z76, ↓z75, ↓z79, ↓z77, if_ok, if_bl, if_and, if_or, getV, getB, opBin, opCmp, opIdx, opCut, opBi, tru, look, look_r, eqD, eqDs, Z.pure, pures, dep, deps, put_m, put_nx, new_m, new_nx, putIx, putOwn, insOf, lkN, putL, putN, thaw, getO, ixOf, LIM, B64, asI, Z.b2, z6d, z6e, z4a, z4b, z48, z49, z69, z6a, z32, z33, z34, z35, z36, z37, z42, z43, z3e, z3f, z40, z41, z38, z39, z3a, z3b, z3c, z3d, z44, z45, z6b, z6c, z52, z53, z56, z57, z58, z66, z67, z68, z5e, z5f, z60, z59, z5a, z64, z65, z50, z51, z4e, z4f, z54, z55, z61, z62, z63, z5b, z5c, z5d, z4c, z4d, z46, z47, z82, z83, z84, z85, z86, z87, z88, zbc, zbb, zba, t_prp_0_7, z8a, z89, z7a, z7b, z7c, z7d, z7e, z7f, z80, z81, z8b, z8c, z97, za2, zad, zb5, zb6, zb7, zb8, zb9, z8d, z8e, z8f, z90, z91, z92, z93, z94, z95, z96, z98, z99, z9a, z9b, z9c, z9d, z9e, z9f, za0, za1, za3, za4, za5, za6, za7, za8, za9, zaa, zab, zac, zae, zaf, zb0, zb1, zb2, zb3, zb4, gl_let, gl_dig, j1, j2]
        exact ⟨rfl, dn ++ [c], rs, _, by rw [el]; simp, rfl, rfl, by simp [List.all_append, ha, k1]⟩
      · have k1' : decide (c ∈ letW) = false := by simpa using k1
        rw [k1'] at j1
        by_cases k2 : c ∈ digW
        · have k2' : decide (c ∈ digW) = true := by simpa using k2
          rw [k2'] at j2
          simp (config := {maxSteps := 4000000, dsimp := false, implicitDefEqProofs := false}) [↓zd2, ↓ze0, ↓zc2, ↓zcc, ↓zc0, ↓zd7, ↓zd9, ↓zc5, ↓zc6, ↓zbd, ↓zda, ↓zd0, ↓zc3, ↓zc4, ↓zd5, ↓zd6, ↓zdb, ↓zbe, ↓zce, ↓zdf, ↓zde, ↓zdd, ↓zdc, ↓ze1, ↓zd3, ↓zd4, ↓zc8, ↓zbf, ↓zc1, ↓zcf, ↓zca, ↓zcb, ↓zd1, ↓zcd, ↓zc9, ↓zd8, ↓zc7, ↓w_compL_nil, ↓w_compL_cons, ↓ze4, ↓ze3, ↓ze2, ↓ze5, ↓z106, ↓z103, ↓z105, ↓z101, ↓z107, ↓z104, ↓z102, ↓ze8, ↓zf5, ↓zfd, ↓zf6, ↓zfb, ↓ze6, ↓zfc, ↓zf4, ↓ze9, ↓ze7, ↓zf2, ↓zed, ↓zf3, ↓zec, ↓zf1, ↓zee, ↓zef, ↓zfe, ↓zf9, ↓zfa, ↓zf8, ↓zf7, ↓zea, ↓zeb, ↓zf0, ↓z100, ↓zff, ↓z1q, ↓z1q', ↓z12, ↓z12', ↓z2a, ↓z2a', ↓z1c, ↓z7, ↓z15, ↓z21, ↓ze, ↓z19, ↓z26, ↓z3, ↓zc, ↓zd, ↓zf, ↓z27, ↓z8, WO_some, WO_none, IfO_true, IfO_false, z10, za, z0, z1a, z17, z11, z28, z29, z1d, z1f, z23, z1b, ↓z73, ↓z74, ↓z6f, ↓z71, ↓z72, ↓z31, ↓z30, ↓z2f, ↓z2c, ↓z2e, ↓z78, ↓z76, ↓z75, ↓z79, ↓z77, if_ok, if_bl, if_and, if_or, getV, getB, opBin, opCmp, opIdx, opCut, opBi, tru, look, look_r, eqD, eqDs, Z.pure, pures, dep, deps, put_m, put_nx, new_m, new_nx, putIx, putOwn, insOf, lkN, putL, putN, thaw, getO, ixOf, LIM, B64, asI, Z.b2, z6d, z6e, z4a, z4b, z48, z49, z69, z6a, z32, z33, z34, z35, z36, z37, z42, z43, z3e, z3f, z40, z41, z38, z39, z3a, z3b, z3c, z3d, z44, z45, z6b, z6c, z52, z53, z56, z57, z58, z66, z67, z68, z5e, z5f, z60, z59, z5a, z64, z65, z50, z51, z4e, z4f, z54, z55, z61, z62, z63, z5b, z5c, z5d, z4c, z4d, z46, z47, z82, z83, z84, z85, z86, z87, z88, zbc, zbb, zba, t_prp_0_7, z8a, z89, z7a, z7b, z7c, z7d, z7e, z7f, z80, z81, z8b, z8c, z97, za2, zad, zb5, zb6, zb7, zb8, zb9, z8d, z8e, z8f, z90, z91, z92, z93, z94, z95, z96, z98, z99, z9a, z9b, z9c, z9d, z9e, z9f, za0, za1, za3, za4, za5, za6, za7, za8, za9, zaa, zab, zac, zae, zaf, zb0, zb1, zb2, zb3, zb4, gl_let, gl_dig, j1, j2]
          exact ⟨rfl, dn ++ [c], rs, _, by rw [el]; simp, rfl, rfl, by simp [List.all_append, ha, k2]⟩
        · have k2' : decide (c ∈ digW) = false := by simpa using k2
          rw [k2'] at j2
          have hf : (w.all fun c => decide (c ∈ letW) || decide (c ∈ digW)) = false := by
            rw [el, List.all_append, List.all_cons, k1', k2']; simp
          rw [hf]
          simp (config := {maxSteps := 4000000, dsimp := false, implicitDefEqProofs := false}) [↓zd2, ↓ze0, ↓zc2, ↓zcc, ↓zc0, ↓zd7, ↓zd9, ↓zc5, ↓zc6, ↓zbd, ↓zda, ↓zd0, ↓zc3, ↓zc4, ↓zd5, ↓zd6, ↓zdb, ↓zbe, ↓zce, ↓zdf, ↓zde, ↓zdd, ↓zdc, ↓ze1, ↓zd3, ↓zd4, ↓zc8, ↓zbf, ↓zc1, ↓zcf, ↓zca, ↓zcb, ↓zd1, ↓zcd, ↓zc9, ↓zd8, ↓zc7, ↓w_compL_nil, ↓w_compL_cons, ↓ze4, ↓ze3, ↓ze2, ↓ze5, ↓z106, ↓z103, ↓z105, ↓z101, ↓z107, ↓z104, ↓z102, ↓ze8, ↓zf5, ↓zfd, ↓zf6, ↓zfb, ↓ze6, ↓zfc, ↓zf4, ↓ze9, ↓ze7, ↓zf2, ↓zed, ↓zf3, ↓zec, ↓zf1, ↓zee, ↓zef, ↓zfe, ↓zf9, ↓zfa, ↓zf8, ↓zf7, ↓zea, ↓zeb, ↓zf0, ↓z100, ↓zff, ↓z1q, ↓z1q', ↓z12, ↓z12', ↓z2a, ↓z2a', ↓z1c, ↓z7, ↓z15, ↓z21, ↓ze, ↓z19, ↓z26, ↓z3, ↓zc, ↓zd, ↓zf, ↓z27, ↓z8, WO_some, WO_none, IfO_true, IfO_false, z10, za, z0, z1a, z17, z11, z28, z29, z1d, z1f, z23, z1b, ↓z73, ↓z74, ↓z6f, ↓z71, ↓z72, ↓z31, ↓z30, ↓z2f, ↓z2c, ↓z2e, ↓z78, ↓z76, ↓z75, ↓z79, ↓z77, if_ok, if_bl, if_and, if_or, getV, getB, opBin, opCmp, opIdx, opCut, opBi, tru, look, look_r, eqD, eqDs, Z.pure, pures, dep, deps, put_m, put_nx, new_m, new_nx, putIx, putOwn, insOf, lkN, putL, putN, thaw, getO, ixOf, LIM, B64, asI, Z.b2, z6d, z6e, z4a, z4b, z48, z49, z69, z6a, z32, z33, z34, z35, z36, z37, z42, z43, z3e, z3f, z40, z41, z38, z39, z3a, z3b, z3c, z3d, z44, z45, z6b, z6c, z52, z53, z56, z57, z58, z66, z67, z68, z5e, z5f, z60, z59, z5a, z64, z65, z50, z51, z4e, z4f, z54, z55, z61, z62, z63, z5b, z5c, z5d, z4c, z4d, z46, z47, z82, z83, z84, z85, z86, z87, z88, zbc, zbb, zba, t_prp_0_7, z8a, z89, z7a, z7b, z7c, z7d, z7e, z7f, z80, z81, z8b, z8c, z97, za2, zad, zb5, zb6, zb7, zb8, zb9, z8d, z8e, z8f, z90, z91, z92, z93, z94, z95, z96, z98, z99, z9a, z9b, z9c, z9d, z9e, z9f, za0, za1, za3, za4, za5, za6, za7, za8, za9, zaa, zab, zac, zae, zaf, zb0, zb1, zb2, zb3, zb4, gl_let, gl_dig, j1, j2]
  · rintro σ M2 ⟨rfl, dn, rs, x, el, ed, rfl, ha⟩
    have : rs = [] := by cases rs with | nil => rfl | cons _ _ => cases ed
    subst this
    rw [List.append_nil] at el
    rw [el, ha]
    simp (config := {maxSteps := 4000000, dsimp := false, implicitDefEqProofs := false}) [↓zd2, ↓ze0, ↓zc2, ↓zcc, ↓zc0, ↓zd7, ↓zd9, ↓zc5, ↓zc6, ↓zbd, ↓zda, ↓zd0, ↓zc3, ↓zc4, ↓zd5, ↓zd6, ↓zdb, ↓zbe, ↓zce, ↓zdf, ↓zde, ↓zdd, ↓zdc, ↓ze1, ↓zd3, ↓zd4, ↓zc8, ↓zbf, ↓zc1, ↓zcf, ↓zca, ↓zcb, ↓zd1, ↓zcd, ↓zc9, ↓zd8, ↓zc7, ↓w_compL_nil, ↓w_compL_cons, ↓ze4, ↓ze3, ↓ze2, ↓ze5, ↓z106, ↓z103, ↓z105, ↓z101, ↓z107, ↓z104, ↓z102, ↓ze8, ↓zf5, ↓zfd, ↓zf6, ↓zfb, ↓ze6, ↓zfc, ↓zf4, ↓ze9, ↓ze7, ↓zf2, ↓zed, ↓zf3, ↓zec, ↓zf1, ↓zee, ↓zef, ↓zfe, ↓zf9, ↓zfa, ↓zf8, ↓zf7, ↓zea, ↓zeb, ↓zf0, ↓z100, ↓zff, ↓z1q, ↓z1q', ↓z12, ↓z12', ↓z2a, ↓z2a', ↓z1c, ↓z7, ↓z15, ↓z21, ↓ze, ↓z19, ↓z26, ↓z3, ↓zc, ↓zd, ↓zf, ↓z27, ↓z8, WO_some, WO_none, IfO_true, IfO_false, z10, za, z0, z1a, z17, z11, z28, z29, z1d, z1f, z23, z1b, ↓z73, ↓z74, ↓z6f, ↓z71, ↓z72, ↓z31, ↓z30, ↓z2f, ↓z2c, ↓z2e, ↓z78, ↓z76, ↓z75, ↓z79, ↓z77, if_ok, if_bl, if_and, if_or, getV, getB, opBin, opCmp, opIdx, opCut, opBi, tru, look, look_r, eqD, eqDs, Z.pure, pures, dep, deps, put_m, put_nx, new_m, new_nx, putIx, putOwn, insOf, lkN, putL, putN, thaw, getO, ixOf, LIM, B64, asI, Z.b2, z6d, z6e, z4a, z4b, z48, z49, z69, z6a, z32, z33, z34, z35, z36, z37, z42, z43, z3e, z3f, z40, z41, z38, z39, z3a, z3b, z3c, z3d, z44, z45, z6b, z6c, z52, z53, z56, z57, z58, z66, z67, z68, z5e, z5f, z60, z59, z5a, z64, z65, z50, z51, z4e, z4f, z54, z55, z61, z62, z63, z5b, z5c, z5d, z4c, z4d, z46, z47, z82, z83, z84, z85, z86, z87, z88, zbc, zbb, zba, t_prp_0_7, z8a, z89, z7a, z7b, z7c, z7d, z7e, z7f, z80, z81, z8b, z8c, z97, za2, zad, zb5, zb6, zb7, zb8, zb9, z8d, z8e, z8f, z90, z91, z92, z93, z94, z95, z96, z98, z99, z9a, z9b, z9c, z9d, z9e, z9f, za0, za1, za3, za4, za5, za6, za7, za8, za9, zaa, zab, zac, zae, zaf, zb0, zb1, zb2, zb3, zb4]
  · exact ⟨rfl, [], w, _, rfl, rfl, rfl, rfl⟩
/- numbers -/
def numW (w : W) : Option Int := if (1 ≤ w.length ∧ w.length ≤ 5) ∧ w.all (fun c => decide (c ∈ digW)) = true ∧ ¬ (w.headD 0 = 48 ∧ 1 < w.length) then
  (match PySem.intText? (sS w) with
  | some n => if 65535 < n then none else some n
  | none => none) else none
def numD : Option Int → D
  | some n => .int n
  | none => .non
theorem lg : Nat.log2 65535 < 1920 := by decide
theorem str_gr : strI 65535 = [54, 53, 53, 51, 53] := rfl
def DI (w : W) (M : Sto) (ds : List D) (σ : List SV) (M' : Sto) : Prop := M' = M ∧ ∃ (dn rs : W) (x : SV), w = dn ++ rs ∧ ds = rs.map (fun c => D.str [c]) ∧ σ = [.val (.str w), x, .non] ∧ (dn.all fun c => decide (c ∈ digW)) = true
theorem dig_ascii : ∀ c ∈ digW, 48 ≤ c ∧ c ≤ 57 := by decide
theorem alld {w : W} (h : (w.all fun c => decide (c ∈ digW)) = true) (h1 : 1 ≤ w.length) (h5 : w.length ≤ 5) : ∃ n, PySem.intText? (sS w) = some n := by
  refine ⟨_, intText_digits (x := sS w) ?_ ?_ ?_⟩
  · intro c hc
    have hc : c ∈ w := by simpa [sS] using hc
    have := List.all_eq_true.mp h c hc
    exact dig_ascii c (by simpa using this)
  · intro e
    have : w = [] := by simpa [sS] using e
    subst this; simp at h1
  · rw [sS_len]; omega
theorem number_ok (q : Nat) (w : W) (hw : w.length ≤ 16777216) (M : Sto) : callA tb.P (Cl (q + 1)) 3 [.str w] M = .ok (numD (numW w)) M := by
  apply WR.eqv
  rw [c_number_of, z8]
  unfold b_number_of
  by_cases h1 : 1 ≤ w.length
  case neg =>
    have hn : numW w = none := by unfold numW; rw [if_neg (fun h => h1 h.1.1)]
    have h0 : w = [] := List.length_eq_zero_iff.mp (by omega)
    subst h0
    simp (config := {maxSteps := 4000000, dsimp := false, implicitDefEqProofs := false}) [↓zd2, ↓ze0, ↓zc2, ↓zcc, ↓zc0, ↓zd7, ↓zd9, ↓zc5, ↓zc6, ↓zbd, ↓zda, ↓zd0, ↓zc3, ↓zc4, ↓zd5, ↓zd6, ↓zdb, ↓zbe, ↓zce, ↓zdf, ↓zde, ↓zdd, ↓zdc, ↓ze1, ↓zd3, ↓zd4, ↓zc8, ↓zbf, ↓zc1, ↓zcf, ↓zca, ↓zcb, ↓zd1, ↓zcd, ↓zc9, ↓zd8, ↓zc7, ↓w_compL_nil, ↓w_compL_cons, ↓ze4, ↓ze3, ↓ze2, ↓ze5, ↓z106, ↓z103, ↓z105, ↓z101, ↓z107, ↓z104, ↓z102, ↓ze8, ↓zf5, ↓zfd, ↓zf6, ↓zfb, ↓ze6, ↓zfc, ↓zf4, ↓ze9, ↓ze7, ↓zf2, ↓zed, ↓zf3, ↓zec, ↓zf1, ↓zee, ↓zef, ↓zfe, ↓zf9, ↓zfa, ↓zf8, ↓zf7, ↓zea, ↓zeb, ↓zf0, ↓z100, ↓zff, ↓z1q, ↓z1q', ↓z12, ↓z12', ↓z2a, ↓z2a', ↓z1c, ↓z7, ↓z15, ↓z21, ↓ze, ↓z19, ↓z26, ↓z3, ↓zc, ↓zd, ↓zf, ↓z27, ↓z8, WO_some, WO_none, IfO_true, IfO_false, z10, za, z0, z1a, z17, z11, z28, z29, z1d, z1f, z23, z1b, ↓z73, ↓z74, ↓z6f, ↓z71, ↓z72, ↓z31, ↓z30, ↓z2f, ↓z2c, ↓z2e, ↓z78, ↓z76, ↓z75, ↓z79, ↓z77, if_ok, if_bl, if_and, if_or, getV, getB, opBin, opCmp, opIdx, opCut, opBi, tru, look, look_r, eqD, eqDs, Z.pure, pures, dep, deps, put_m, put_nx, new_m, new_nx, putIx, putOwn, insOf, lkN, putL, putN, thaw, getO, ixOf, LIM, B64, asI, Z.b2, z6d, z6e, z4a, z4b, z48, z49, z69, z6a, z32, z33, z34, z35, z36, z37, z42, z43, z3e, z3f, z40, z41, z38, z39, z3a, z3b, z3c, z3d, z44, z45, z6b, z6c, z52, z53, z56, z57, z58, z66, z67, z68, z5e, z5f, z60, z59, z5a, z64, z65, z50, z51, z4e, z4f, z54, z55, z61, z62, z63, z5b, z5c, z5d, z4c, z4d, z46, z47, z82, z83, z84, z85, z86, z87, z88, zbc, zbb, zba, t_prp_0_7, z8a, z89, z7a, z7b, z7c, z7d, z7e, z7f, z80, z81, z8b, z8c, z97, za2, zad, zb5, zb6, zb7, zb8, zb9, z8d, z8e, z8f, z90, z91, z92, z93, z94, z95, z96, z98, z99, z9a, z9b, z9c, z9d, z9e, z9f, za0, za1, za3, za4, za5, za6, za7, za8, za9, zaa, zab, zac, zae, zaf, zb0, zb1, zb2, zb3, zb4, hn, numD]
  have h1' : (1 : Int) ≤ (w.length : Int) := by omega
  by_cases h2 : w.length ≤ 5
  case neg =>
    have hn : numW w = none := by unfold numW; rw [if_neg (fun h => h2 h.1.2)]
    have h2' : ¬ (w.length : Int) ≤ 5 := by omega
    simp (config := {maxSteps := 4000000, dsimp := false, implicitDefEqProofs := false}) [↓zd2, ↓ze0, ↓zc2, ↓zcc, ↓zc0, ↓zd7, ↓zd9, ↓zc5, ↓zc6, ↓zbd, ↓zda, ↓zd0, ↓zc3, ↓zc4, ↓zd5, ↓zd6, ↓zdb, ↓zbe, ↓zce, ↓zdf, ↓zde, ↓zdd, ↓zdc, ↓ze1, ↓zd3, ↓zd4, ↓zc8, ↓zbf, ↓zc1, ↓zcf, ↓zca, ↓zcb, ↓zd1, ↓zcd, ↓zc9, ↓zd8, ↓zc7, ↓w_compL_nil, ↓w_compL_cons, ↓ze4, ↓ze3, ↓ze2, ↓ze5, ↓z106, ↓z103, ↓z105, ↓z101, ↓z107, ↓z104, ↓z102, ↓ze8, ↓zf5, ↓zfd, ↓zf6, ↓zfb, ↓ze6, ↓zfc, ↓zf4, ↓ze9, ↓ze7, ↓zf2, ↓zed, ↓zf3, ↓zec, ↓zf1, ↓zee, ↓zef, ↓zfe, ↓zf9, ↓zfa, ↓zf8, ↓zf7, ↓zea, ↓zeb, ↓zf0, ↓z100, ↓zff, ↓z1q, ↓z1q', ↓z12, ↓z12', ↓z2a, ↓z2a', ↓z1c, ↓z7, ↓z15, ↓z21, ↓ze, ↓z19, ↓z26, ↓z3, ↓zc, ↓zd, ↓zf, ↓z27, ↓z8, WO_some, WO_none, IfO_true, IfO_false, z10, za, z0, z1a, z17, z11, z28, z29, z1d, z1f, z23, z1b, ↓z73, ↓z74, ↓z6f, ↓z71, ↓z72, ↓z31, ↓z30, ↓z2f, ↓z2c, ↓z2e, ↓z78, ↓z76, ↓z75, ↓z79, ↓z77, if_ok, if_bl, if_and, if_or, getV, getB, opBin, opCmp, opIdx, opCut, opBi, tru, look, look_r, eqD, eqDs, Z.pure, pures, dep, deps, put_m, put_nx, new_m, new_nx, putIx, putOwn, insOf, lkN, putL, putN, thaw, getO, ixOf, LIM, B64, asI, Z.b2, z6d, z6e, z4a, z4b, z48, z49, z69, z6a, z32, z33, z34, z35, z36, z37, z42, z43, z3e, z3f, z40, z41, z38, z39, z3a, z3b, z3c, z3d, z44, z45, z6b, z6c, z52, z53, z56, z57, z58, z66, z67, z68, z5e, z5f, z60, z59, z5a, z64, z65, z50, z51, z4e, z4f, z54, z55, z61, z62, z63, z5b, z5c, z5d, z4c, z4d, z46, z47, z82, z83, z84, z85, z86, z87, z88, zbc, zbb, zba, t_prp_0_7, z8a, z89, z7a, z7b, z7c, z7d, z7e, z7f, z80, z81, z8b, z8c, z97, za2, zad, zb5, zb6, zb7, zb8, zb9, z8d, z8e, z8f, z90, z91, z92, z93, z94, z95, z96, z98, z99, z9a, z9b, z9c, z9d, z9e, z9f, za0, za1, za3, za4, za5, za6, za7, za8, za9, zaa, zab, zac, zae, zaf, zb0, zb1, zb2, zb3, zb4, hn, numD, h1', h2', hw, gl_gr, str_gr, lg]
  have h2' : (w.length : Int) ≤ 5 := by omega
  simp (config := {maxSteps := 4000000, dsimp := false, implicitDefEqProofs := false}) [↓zd2, ↓ze0, ↓zc2, ↓zcc, ↓zc0, ↓zd7, ↓zd9, ↓zc5, ↓zc6, ↓zbd, ↓zda, ↓zd0, ↓zc3, ↓zc4, ↓zd5, ↓zd6, ↓zdb, ↓zbe, ↓zce, ↓zdf, ↓zde, ↓zdd, ↓zdc, ↓ze1, ↓zd3, ↓zd4, ↓zc8, ↓zbf, ↓zc1, ↓zcf, ↓zca, ↓zcb, ↓zd1, ↓zcd, ↓zc9, ↓zd8, ↓zc7, ↓w_compL_nil, ↓w_compL_cons, ↓ze4, ↓ze3, ↓ze2, ↓ze5, ↓z106, ↓z103, ↓z105, ↓z101, ↓z107, ↓z104, ↓z102, ↓ze8, ↓zf5, ↓zfd, ↓zf6, ↓zfb, ↓ze6, ↓zfc, ↓zf4, ↓ze9, ↓ze7, ↓zf2, ↓zed, ↓zf3, ↓zec, ↓zf1, ↓zee, ↓zef, ↓zfe, ↓zf9, ↓zfa, ↓zf8, ↓zf7, ↓zea, ↓zeb, ↓zf0, ↓z100, ↓zff, ↓z1q, ↓z1q', ↓z12, ↓z12', ↓z2a, ↓z2a', ↓z1c, ↓z7, ↓z15, ↓z21, ↓ze, ↓z19, ↓z26, ↓z3, ↓zc, ↓zd, ↓zf, ↓z27, ↓z8, WO_some, WO_none, IfO_true, IfO_false, z10, za, z0, z1a, z17, z11, z28, z29, z1d, z1f, z23, z1b, ↓z73, ↓z74, ↓z6f, ↓z71, ↓z72, ↓z31, ↓z30, ↓z2f, ↓z2c, ↓z2e, ↓z78, ↓z76, ↓z75, ↓z79, ↓z77, if_ok, if_bl, if_and, if_or, getV, getB, opBin, opCmp, opIdx, opCut, opBi, tru, look, look_r, eqD, eqDs, Z.pure, pures, dep, deps, put_m, put_nx, new_m, new_nx, putIx, putOwn, insOf, lkN, putL, putN, thaw, getO, ixOf, LIM, B64, asI, Z.b2, z6d, z6e, z4a, z4b, z48, z49, z69, z6a, z32, z33, z34, z35, z36, z37, z42, z43, z3e, z3f, z40, z41, z38, z39, z3a, z3b, z3c, z3d, z44, z45, z6b, z6c, z52, z53, z56, z57, z58, z66, z67, z68, z5e, z5f, z60, z59, z5a, z64, z65, z50, z51, z4e, z4f, z54, z55, z61, z62, z63, z5b, z5c, z5d, z4c, z4d, z46, z47, z82, z83, z84, z85, z86, z87, z88, zbc, zbb, zba, t_prp_0_7, z8a, z89, z7a, z7b, z7c, z7d, z7e, z7f, z80, z81, z8b, z8c, z97, za2, zad, zb5, zb6, zb7, zb8, zb9, z8d, z8e, z8f, z90, z91, z92, z93, z94, z95, z96, z98, z99, z9a, z9b, z9c, z9d, z9e, z9f, za0, za1, za3, za4, za5, za6, za7, za8, za9, zaa, zab, zac, zae, zaf, zb0, zb1, zb2, zb3, zb4, numD, h1', h2', hw, gl_gr, str_gr, seqI, lg]
  refine z24 (I := DI w M) ?_ ?_ _ _ _ ?_
  · rintro d ds σ M2 ⟨rfl, dn, rs, x, el, ed, rfl, ha⟩
    cases rs with
    | nil => cases ed
    | cons c rs =>
      cases ed
      refine ⟨_, rfl, ?_⟩
      have j2 := opIn_s c digW
      by_cases k2 : c ∈ digW
      · have k2' : decide (c ∈ digW) = true := by simpa using k2
        rw [k2'] at j2
        simp (config := {maxSteps := 4000000, dsimp := false, implicitDefEqProofs := false}) [↓zd2, ↓ze0, ↓zc2, ↓zcc, ↓zc0, ↓zd7, ↓zd9, ↓zc5, ↓zc6, ↓zbd, ↓zda, ↓zd0, ↓zc3, ↓zc4, ↓zd5, ↓zd6, ↓zdb, ↓zbe, ↓zce, ↓zdf, ↓zde, ↓zdd, ↓zdc, ↓ze1, ↓zd3, ↓zd4, ↓zc8, ↓zbf, ↓zc1, ↓zcf, ↓zca, ↓zcb, ↓zd1, ↓zcd, ↓zc9, ↓zd8, ↓zc7, ↓w_compL_nil, ↓w_compL_cons, ↓ze4, ↓ze3, ↓ze2, ↓ze5, ↓z106, ↓z103, ↓z105, ↓z101, ↓z107, ↓z104, ↓z102, ↓ze8, ↓zf5, ↓zfd, ↓zf6, ↓zfb, ↓ze6, ↓zfc, ↓zf4, ↓ze9, ↓ze7, ↓zf2, ↓zed, ↓zf3, ↓zec, ↓zf1, ↓zee, ↓zef, ↓zfe, ↓zf9, ↓zfa, ↓zf8, ↓zf7, ↓zea, ↓zeb, ↓zf0, ↓z100, ↓zff, ↓z1q, ↓z1q', ↓z12, ↓z12', ↓z2a, ↓z2a', ↓z1c, ↓z7, ↓z15, ↓z21, ↓ze, ↓z19, ↓z26, ↓z3, ↓zc, ↓zd, ↓zf, ↓z27, ↓z8, WO_some, WO_none, IfO_true, IfO_false, z10, za, z0, z1a, z17, z11, z28, z29, z1d, z1f, z23, z1b, ↓z73, ↓z74, ↓z6f, ↓z71, ↓z72, ↓z31, ↓z30, ↓z2f, ↓z2c, ↓z2e, ↓z78, ↓z76, ↓z75, ↓z79, ↓z77, if_ok, if_bl, if_and, if_or, getV, getB, opBin, opCmp, opIdx, opCut, opBi, tru, look, look_r, eqD, eqDs, Z.pure, pures, dep, deps, put_m, put_nx, new_m, new_nx, putIx, putOwn, insOf, lkN, putL, putN, thaw, getO, ixOf, LIM, B64, asI, Z.b2, z6d, z6e, z4a, z4b, z48, z49, z69, z6a, z32, z33, z34, z35, z36, z37, z42, z43, z3e, z3f, z40, z41, z38, z39, z3a, z3b, z3c, z3d, z44, z45, z6b, z6c, z52, z53, z56, z57, z58, z66, z67, z68, z5e, z5f, z60, z59, z5a, z64, z65, z50, z51, z4e, z4f, z54, z55, z61, z62, z63, z5b, z5c, z5d, z4c, z4d, z46, z47, z82, z83, z84, z85, z86, z87, z88, zbc, zbb, zba, t_prp_0_7, z8a, z89, z7a, z7b, z7c, z7d, z7e, z7f, z80, z81, z8b, z8c, z97, za2, zad, zb5, zb6, zb7, zb8, zb9, z8d, z8e, z8f, z90, z91, z92, z93, z94, z95, z96, z98, z99, z9a, z9b, z9c, z9d, z9e, z9f, za0, za1, za3, za4, za5, za6, za7, za8, za9, zaa, zab, zac, zae, zaf, zb0, zb1, zb2, zb3, zb4, gl_dig, j2]
        exact ⟨rfl, dn ++ [c], rs, _, by rw [el]; simp, rfl, rfl, by simp [List.all_append, ha, k2]⟩
      · have k2' : decide (c ∈ digW) = false := by simpa using k2
        rw [k2'] at j2
        have hn : numW w = none := by
          unfold numW; rw [if_neg]
          rintro ⟨_, h, _⟩
          rw [el, List.all_append, List.all_cons, k2'] at h
          simp at h
        simp (config := {maxSteps := 4000000, dsimp := false, implicitDefEqProofs := false}) [↓zd2, ↓ze0, ↓zc2, ↓zcc, ↓zc0, ↓zd7, ↓zd9, ↓zc5, ↓zc6, ↓zbd, ↓zda, ↓zd0, ↓zc3, ↓zc4, ↓zd5, ↓zd6, ↓zdb, ↓zbe, ↓zce, ↓zdf, ↓zde, ↓zdd, ↓zdc, ↓ze1, ↓zd3, ↓zd4, ↓zc8, ↓zbf, ↓zc1, ↓zcf, ↓zca, ↓zcb, ↓zd1, ↓zcd, ↓zc9, ↓zd8, ↓zc7, ↓w_compL_nil, ↓w_compL_cons, ↓ze4, ↓ze3, ↓ze2, ↓ze5, ↓z106, ↓z103, ↓z105, ↓z101, ↓z107, ↓z104, ↓z102, ↓ze8, ↓zf5, ↓zfd, ↓zf6, ↓zfb, ↓ze6, ↓zfc, ↓zf4, ↓ze9, ↓ze7, ↓zf2, ↓zed, ↓zf3, ↓zec, ↓zf1, ↓zee, ↓zef, ↓zfe, ↓zf9, ↓zfa, ↓zf8, ↓zf7, ↓zea, ↓zeb, ↓zf0, ↓z100, ↓zff, ↓z1q, ↓z1q', ↓z12, ↓z12', ↓z2a, ↓z2a', ↓z1c, ↓z7, ↓z15, ↓z21, ↓ze, ↓z19, ↓z26, ↓z3, ↓zc, ↓zd, ↓zf, ↓z27, ↓z8, WO_some, WO_none, IfO_true, IfO_false, z10, za, z0, z1a, z17, z11, z28, z29, z1d, z1f, z23, z1b, ↓z73, ↓z74, ↓z6f, ↓z71, ↓z72, ↓z31, ↓z30, ↓z2f, ↓z2c, ↓z2e, ↓z78, ↓z76, ↓z75, ↓z79, ↓z77, if_ok, if_bl, if_and, if_or, getV, getB, opBin, opCmp, opIdx, opCut, opBi, tru, look, look_r, eqD, eqDs, Z.pure, pures, dep, deps, put_m, put_nx, new_m, new_nx, putIx, putOwn, insOf, lkN, putL, putN, thaw, getO, ixOf, LIM, B64, asI, Z.b2, z6d, z6e, z4a, z4b, z48, z49, z69, z6a, z32, z33, z34, z35, z36, z37, z42, z43, z3e, z3f, z40, z41, z38, z39, z3a, z3b, z3c, z3d, z44, z45, z6b, z6c, z52, z53, z56, z57, z58, z66, z67, z68, z5e, z5f, z60, z59, z5a, z64, z65, z50, z51, z4e, z4f, z54, z55, z61, z62, z63, z5b, z5c, z5d, z4c, z4d, z46, z47, z82, z83, z84, z85, z86, z87, z88, zbc, zbb, zba, t_prp_0_7, z8a, z89, z7a, z7b, z7c, z7d, z7e, z7f, z80, z81, z8b, z8c, z97, za2, zad, zb5, zb6, zb7, zb8, zb9, z8d, z8e, z8f, z90, z91, z92, z93, z94, z95, z96, z98, z99, z9a, z9b, z9c, z9d, z9e, z9f, za0, za1, za3, za4, za5, za6, za7, za8, za9, zaa, zab, zac, zae, zaf, zb0, zb1, zb2, zb3, zb4, gl_dig, j2, hn, numD]
  · rintro σ M2 ⟨rfl, dn, rs, x, el, ed, rfl, ha⟩
    have : rs = [] := by cases rs with | nil => rfl | cons _ _ => cases ed
    subst this
    rw [List.append_nil] at el
    subst el
    obtain ⟨n, hn⟩ := alld ha h1 h2
    obtain ⟨c, r, rfl⟩ : ∃ c r, w = c :: r := by cases w with | nil => simp at h1 | cons c r => exact ⟨c, r, rfl⟩
    have h0l : (0 : Int) < (r.length : Int) + 1 := by omega
    have hw2 : r.length + 1 ≤ 16777216 := by simpa using hw
    have hw3 : r.length + 1 ≤ 640 := by simp at h2; omega
    by_cases hz : c = 48 ∧ 1 < (c :: r).length
    · have hnn : numW (c :: r) = none := by
        unfold numW; rw [if_neg]; rintro ⟨_, _, h⟩; exact h hz
      obtain ⟨rfl, hl⟩ := hz
      have hl' : (1 : Int) < (r.length : Int) + 1 := by simp at hl; omega
      simp (config := {maxSteps := 4000000, dsimp := false, implicitDefEqProofs := false}) [↓zd2, ↓ze0, ↓zc2, ↓zcc, ↓zc0, ↓zd7, ↓zd9, ↓zc5, ↓zc6, ↓zbd, ↓zda, ↓zd0, ↓zc3, ↓zc4, ↓zd5, ↓zd6, ↓zdb, ↓zbe, ↓zce, ↓zdf, ↓zde, ↓zdd, ↓zdc, ↓ze1, ↓zd3, ↓zd4, ↓zc8, ↓zbf, ↓zc1, ↓zcf, ↓zca, ↓zcb, ↓zd1, ↓zcd, ↓zc9, ↓zd8, ↓zc7, ↓w_compL_nil, ↓w_compL_cons, ↓ze4, ↓ze3, ↓ze2, ↓ze5, ↓z106, ↓z103, ↓z105, ↓z101, ↓z107, ↓z104, ↓z102, ↓ze8, ↓zf5, ↓zfd, ↓zf6, ↓zfb, ↓ze6, ↓zfc, ↓zf4, ↓ze9, ↓ze7, ↓zf2, ↓zed, ↓zf3, ↓zec, ↓zf1, ↓zee, ↓zef, ↓zfe, ↓zf9, ↓zfa, ↓zf8, ↓zf7, ↓zea, ↓zeb, ↓zf0, ↓z100, ↓zff, ↓z1q, ↓z1q', ↓z12, ↓z12', ↓z2a, ↓z2a', ↓z1c, ↓z7, ↓z15, ↓z21, ↓ze, ↓z19, ↓z26, ↓z3, ↓zc, ↓zd, ↓zf, ↓z27, ↓z8, WO_some, WO_none, IfO_true, IfO_false, z10, za, z0, z1a, z17, z11, z28, z29, z1d, z1f, z23, z1b, ↓z73, ↓z74, ↓z6f, ↓z71, ↓z72, ↓z31, ↓z30, ↓z2f, ↓z2c, ↓z2e, ↓z78, ↓z76, ↓z75, ↓z79, ↓z77, if_ok, if_bl, if_and, if_or, getV, getB, opBin, opCmp, opIdx, opCut, opBi, tru, look, look_r, eqD, eqDs, Z.pure, pures, dep, deps, put_m, put_nx, new_m, new_nx, putIx, putOwn, insOf, lkN, putL, putN, thaw, getO, ixOf, LIM, B64, asI, Z.b2, z6d, z6e, z4a, z4b, z48, z49, z69, z6a, z32, z33, z34, z35, z36, z37, z42, z43, z3e, z3f, z40, z41, z38, z39, z3a, z3b, z3c, z3d, z44, z45, z6b, z6c, z52, z53, z56, z57, z58, z66, z67, z68, z5e, z5f, z60, z59, z5a, z64, z65, z50, z51, z4e, z4f, z54, z55, z61, z62, z63, z5b, z5c, z5d, z4c, z4d, z46, z47, z82, z83, z84, z85, z86, z87, z88, zbc, zbb, zba, t_prp_0_7, z8a, z89, z7a, z7b, z7c, z7d, z7e, z7f, z80, z81, z8b, z8c, z97, za2, zad, zb5, zb6, zb7, zb8, zb9, z8d, z8e, z8f, z90, z91, z92, z93, z94, z95, z96, z98, z99, z9a, z9b, z9c, z9d, z9e, z9f, za0, za1, za3, za4, za5, za6, za7, za8, za9, zaa, zab, zac, zae, zaf, zb0, zb1, zb2, zb3, zb4, h0l, hl', hnn, numD, s_0, hw2]
    · have hnn : numW (c :: r) = if 65535 < n then none else some n := by
        unfold numW; rw [if_pos ⟨⟨h1, h2⟩, ha, hz⟩, hn]
      have hz' : c = 48 → ¬ (1 : Int) < (r.length : Int) + 1 := by
        intro h hl; exact hz ⟨h, by simp; omega⟩
      by_cases hg : 65535 < n
      · rw [if_pos hg] at hnn
        by_cases hc : c = 48
        · have hl' := hz' hc
          subst hc
          simp (config := {maxSteps := 4000000, dsimp := false, implicitDefEqProofs := false}) [↓zd2, ↓ze0, ↓zc2, ↓zcc, ↓zc0, ↓zd7, ↓zd9, ↓zc5, ↓zc6, ↓zbd, ↓zda, ↓zd0, ↓zc3, ↓zc4, ↓zd5, ↓zd6, ↓zdb, ↓zbe, ↓zce, ↓zdf, ↓zde, ↓zdd, ↓zdc, ↓ze1, ↓zd3, ↓zd4, ↓zc8, ↓zbf, ↓zc1, ↓zcf, ↓zca, ↓zcb, ↓zd1, ↓zcd, ↓zc9, ↓zd8, ↓zc7, ↓w_compL_nil, ↓w_compL_cons, ↓ze4, ↓ze3, ↓ze2, ↓ze5, ↓z106, ↓z103, ↓z105, ↓z101, ↓z107, ↓z104, ↓z102, ↓ze8, ↓zf5, ↓zfd, ↓zf6, ↓zfb, ↓ze6, ↓zfc, ↓zf4, ↓ze9, ↓ze7, ↓zf2, ↓zed, ↓zf3, ↓zec, ↓zf1, ↓zee, ↓zef, ↓zfe, ↓zf9, ↓zfa, ↓zf8, ↓zf7, ↓zea, ↓zeb, ↓zf0, ↓z100, ↓zff, ↓z1q, ↓z1q', ↓z12, ↓z12', ↓z2a, ↓z2a', ↓z1c, ↓z7, ↓z15, ↓z21, ↓ze, ↓z19, ↓z26, ↓z3, ↓zc, ↓zd, ↓zf, ↓z27, ↓z8, WO_some, WO_none, IfO_true, IfO_false, z10, za, z0, z1a, z17, z11, z28, z29, z1d, z1f, z23, z1b, ↓z73, ↓z74, ↓z6f, ↓z71, ↓z72, ↓z31, ↓z30, ↓z2f, ↓z2c, ↓z2e, ↓z78, ↓z76, ↓z75, ↓z79, ↓z77, if_ok, if_bl, if_and, if_or, getV, getB, opBin, opCmp, opIdx, opCut, opBi, tru, look, look_r, eqD, eqDs, Z.pure, pures, dep, deps, put_m, put_nx, new_m, new_nx, putIx, putOwn, insOf, lkN, putL, putN, thaw, getO, ixOf, LIM, B64, asI, Z.b2, z6d, z6e, z4a, z4b, z48, z49, z69, z6a, z32, z33, z34, z35, z36, z37, z42, z43, z3e, z3f, z40, z41, z38, z39, z3a, z3b, z3c, z3d, z44, z45, z6b, z6c, z52, z53, z56, z57, z58, z66, z67, z68, z5e, z5f, z60, z59, z5a, z64, z65, z50, z51, z4e, z4f, z54, z55, z61, z62, z63, z5b, z5c, z5d, z4c, z4d, z46, z47, z82, z83, z84, z85, z86, z87, z88, zbc, zbb, zba, t_prp_0_7, z8a, z89, z7a, z7b, z7c, z7d, z7e, z7f, z80, z81, z8b, z8c, z97, za2, zad, zb5, zb6, zb7, zb8, zb9, z8d, z8e, z8f, z90, z91, z92, z93, z94, z95, z96, z98, z99, z9a, z9b, z9c, z9d, z9e, z9f, za0, za1, za3, za4, za5, za6, za7, za8, za9, zaa, zab, zac, zae, zaf, zb0, zb1, zb2, zb3, zb4, h0l, hl', hnn, numD, s_0, hw2, hw3, gl_gr, hg, hn]
        · simp (config := {maxSteps := 4000000, dsimp := false, implicitDefEqProofs := false}) [↓zd2, ↓ze0, ↓zc2, ↓zcc, ↓zc0, ↓zd7, ↓zd9, ↓zc5, ↓zc6, ↓zbd, ↓zda, ↓zd0, ↓zc3, ↓zc4, ↓zd5, ↓zd6, ↓zdb, ↓zbe, ↓zce, ↓zdf, ↓zde, ↓zdd, ↓zdc, ↓ze1, ↓zd3, ↓zd4, ↓zc8, ↓zbf, ↓zc1, ↓zcf, ↓zca, ↓zcb, ↓zd1, ↓zcd, ↓zc9, ↓zd8, ↓zc7, ↓w_compL_nil, ↓w_compL_cons, ↓ze4, ↓ze3, ↓ze2, ↓ze5, ↓z106, ↓z103, ↓z105, ↓z101, ↓z107, ↓z104, ↓z102, ↓ze8, ↓zf5, ↓zfd, ↓zf6, ↓zfb, ↓ze6, ↓zfc, ↓zf4, ↓ze9, ↓ze7, ↓zf2, ↓zed, ↓zf3, ↓zec, ↓zf1, ↓zee, ↓zef, ↓zfe, ↓zf9, ↓zfa, ↓zf8, ↓zf7, ↓zea, ↓zeb, ↓zf0, ↓z100, ↓zff, ↓z1q, ↓z1q', ↓z12, ↓z12', ↓z2a, ↓z2a', ↓z1c, ↓z7, ↓z15, ↓z21, ↓ze, ↓z19, ↓z26, ↓z3, ↓zc, ↓zd, ↓zf, ↓z27, ↓z8, WO_some, WO_none, IfO_true, IfO_false, z10, za, z0, z1a, z17, z11, z28, z29, z1d, z1f, z23, z1b, ↓z73, ↓z74, ↓z6f, ↓z71, ↓z72, ↓z31, ↓z30, ↓z2f, ↓z2c, ↓z2e, ↓z78, ↓z76, ↓z75, ↓z79, ↓z77, if_ok, if_bl, if_and, if_or, getV, getB, opBin, opCmp, opIdx, opCut, opBi, tru, look, look_r, eqD, eqDs, Z.pure, pures, dep, deps, put_m, put_nx, new_m, new_nx, putIx, putOwn, insOf, lkN, putL, putN, thaw, getO, ixOf, LIM, B64, asI, Z.b2, z6d, z6e, z4a, z4b, z48, z49, z69, z6a, z32, z33, z34, z35, z36, z37, z42, z43, z3e, z3f, z40, z41, z38, z39, z3a, z3b, z3c, z3d, z44, z45, z6b, z6c, z52, z53, z56, z57, z58, z66, z67, z68, z5e, z5f, z60, z59, z5a, z64, z65, z50, z51, z4e, z4f, z54, z55, z61, z62, z63, z5b, z5c, z5d, z4c, z4d, z46, z47, z82, z83, z84, z85, z86, z87, z88, zbc, zbb, zba, t_prp_0_7, z8a, z89, z7a, z7b, z7c, z7d, z7e, z7f, z80, z81, z8b, z8c, z97, za2, zad, zb5, zb6, zb7, zb8, zb9, z8d, z8e, z8f, z90, z91, z92, z93, z94, z95, z96, z98, z99, z9a, z9b, z9c, z9d, z9e, z9f, za0, za1, za3, za4, za5, za6, za7, za8, za9, zaa, zab, zac, zae, zaf, zb0, zb1, zb2, zb3, zb4, h0l, hc, hnn, numD, s_0, hw2, hw3, gl_gr, hg, hn]
      · rw [if_neg hg] at hnn
        by_cases hc : c = 48
        · have hl' := hz' hc
          subst hc
          simp (config := {maxSteps := 4000000, dsimp := false, implicitDefEqProofs := false}) [↓zd2, ↓ze0, ↓zc2, ↓zcc, ↓zc0, ↓zd7, ↓zd9, ↓zc5, ↓zc6, ↓zbd, ↓zda, ↓zd0, ↓zc3, ↓zc4, ↓zd5, ↓zd6, ↓zdb, ↓zbe, ↓zce, ↓zdf, ↓zde, ↓zdd, ↓zdc, ↓ze1, ↓zd3, ↓zd4, ↓zc8, ↓zbf, ↓zc1, ↓zcf, ↓zca, ↓zcb, ↓zd1, ↓zcd, ↓zc9, ↓zd8, ↓zc7, ↓w_compL_nil, ↓w_compL_cons, ↓ze4, ↓ze3, ↓ze2, ↓ze5, ↓z106, ↓z103, ↓z105, ↓z101, ↓z107, ↓z104, ↓z102, ↓ze8, ↓zf5, ↓zfd, ↓zf6, ↓zfb, ↓ze6, ↓zfc, ↓zf4, ↓ze9, ↓ze7, ↓zf2, ↓zed, ↓zf3, ↓zec, ↓zf1, ↓zee, ↓zef, ↓zfe, ↓zf9, ↓zfa, ↓zf8, ↓zf7, ↓zea, ↓zeb, ↓zf0, ↓z100, ↓zff, ↓z1q, ↓z1q', ↓z12, ↓z12', ↓z2a, ↓z2a', ↓z1c, ↓z7, ↓z15, ↓z21, ↓ze, ↓z19, ↓z26, ↓z3, ↓zc, ↓zd, ↓zf, ↓z27, ↓z8, WO_some, WO_none, IfO_true, IfO_false, z10, za, z0, z1a, z17, z11, z28, z29, z1d, z1f, z23, z1b, ↓z73, ↓z74, ↓z6f, ↓z71, ↓z72, ↓z31, ↓z30, ↓z2f, ↓z2c, ↓z2e, ↓z78, ↓z76, ↓z75, ↓z79, ↓z77, if_ok, if_bl, if_and, if_or, getV, getB, opBin, opCmp, opIdx, opCut, opBi, tru, look, look_r, eqD, eqDs, Z.pure, pures, dep, deps, put_m, put_nx, new_m, new_nx, putIx, putOwn, insOf, lkN, putL, putN, thaw, getO, ixOf, LIM, B64, asI, Z.b2, z6d, z6e, z4a, z4b, z48, z49, z69, z6a, z32, z33, z34, z35, z36, z37, z42, z43, z3e, z3f, z40, z41, z38, z39, z3a, z3b, z3c, z3d, z44, z45, z6b, z6c, z52, z53, z56, z57, z58, z66, z67, z68, z5e, z5f, z60, z59, z5a, z64, z65, z50, z51, z4e, z4f, z54, z55, z61, z62, z63, z5b, z5c, z5d, z4c, z4d, z46, z47, z82, z83, z84, z85, z86, z87, z88, zbc, zbb, zba, t_prp_0_7, z8a, z89, z7a, z7b, z7c, z7d, z7e, z7f, z80, z81, z8b, z8c, z97, za2, zad, zb5, zb6, zb7, zb8, zb9, z8d, z8e, z8f, z90, z91, z92, z93, z94, z95, z96, z98, z99, z9a, z9b, z9c, z9d, z9e, z9f, za0, za1, za3, za4, za5, za6, za7, za8, za9, zaa, zab, zac, zae, zaf, zb0, zb1, zb2, zb3, zb4, h0l, hl', hnn, numD, s_0, hw2, hw3, gl_gr, hg, hn]
        · simp (config := {maxSteps := 4000000, dsimp := false, implicitDefEqProofs := false}) [↓zd2, ↓ze0, ↓zc2, ↓zcc, ↓zc0, ↓zd7, ↓zd9, ↓zc5, ↓zc6, ↓zbd, ↓zda, ↓zd0, ↓zc3, ↓zc4, ↓zd5, ↓zd6, ↓zdb, ↓zbe, ↓zce, ↓zdf, ↓zde, ↓zdd, ↓zdc, ↓ze1, ↓zd3, ↓zd4, ↓zc8, ↓zbf, ↓zc1, ↓zcf, ↓zca, ↓zcb, ↓zd1, ↓zcd, ↓zc9, ↓zd8, ↓zc7, ↓w_compL_nil, ↓w_compL_cons, ↓ze4, ↓ze3, ↓ze2, ↓ze5, ↓z106, ↓z103, ↓z105, ↓z101, ↓z107, ↓z104, ↓z102, ↓ze8, ↓zf5, ↓zfd, ↓zf6, ↓zfb, ↓ze6, ↓zfc, ↓zf4, ↓ze9, ↓ze7, ↓zf2, ↓zed, ↓zf3, ↓zec, ↓zf1, ↓zee, ↓zef, ↓zfe, ↓zf9, ↓zfa, ↓zf8, ↓zf7, ↓zea, ↓zeb, ↓zf0, ↓z100, ↓zff, ↓z1q, ↓z1q', ↓z12, ↓z12', ↓z2a, ↓z2a', ↓z1c, ↓z7, ↓z15, ↓z21, ↓ze, ↓z19, ↓z26, ↓z3, ↓zc, ↓zd, ↓zf, ↓z27, ↓z8, WO_some, WO_none, IfO_true, IfO_false, z10, za, z0, z1a, z17, z11, z28, z29, z1d, z1f, z23, z1b, ↓z73, ↓z74, ↓z6f, ↓z71, ↓z72, ↓z31, ↓z30, ↓z2f, ↓z2c, ↓z2e, ↓z78, ↓z76, ↓z75, ↓z79, ↓z77, if_ok, if_bl, if_and, if_or, getV, getB, opBin, opCmp, opIdx, opCut, opBi, tru, look, look_r, eqD, eqDs, Z.pure, pures, dep, deps, put_m, put_nx, new_m, new_nx, putIx, putOwn, insOf, lkN, putL, putN, thaw, getO, ixOf, LIM, B64, asI, Z.b2, z6d, z6e, z4a, z4b, z48, z49, z69, z6a, z32, z33, z34, z35, z36, z37, z42, z43, z3e, z3f, z40, z41, z38, z39, z3a, z3b, z3c, z3d, z44, z45, z6b, z6c, z52, z53, z56, z57, z58, z66, z67, z68, z5e, z5f, z60, z59, z5a, z64, z65, z50, z51, z4e, z4f, z54, z55, z61, z62, z63, z5b, z5c, z5d, z4c, z4d, z46, z47, z82, z83, z84, z85, z86, z87, z88, zbc, zbb, zba, t_prp_0_7, z8a, z89, z7a, z7b, z7c, z7d, z7e, z7f, z80, z81, z8b, z8c, z97, za2, zad, zb5, zb6, zb7, zb8, zb9, z8d, z8e, z8f, z90, z91, z92, z93, z94, z95, z96, z98, z99, z9a, z9b, z9c, z9d, z9e, z9f, za0, za1, za3, za4, za5, za6, za7, za8, za9, zaa, zab, zac, zae, zaf, zb0, zb1, zb2, zb3, zb4, h0l, hc, hnn, numD, s_0, hw2, hw3, gl_gr, hg, hn]
  · exact ⟨rfl, [], w, _, rfl, rfl, rfl, rfl⟩
end Q


set_option Elab.async false
set_option linter.all false
set_option autoImplicit false
set_option maxRecDepth 100000
set_option maxHeartbeats 4000000
namespace Q
open PySem L2 Z
/-- a cursor in the store -/
def CurO (ws : List W) (a : Int) : MO := .ins 0 [0, 1, 2, 3, 4, 5, 6] [.lst (nms ws), .lst [], .lst [], .bl false, .int a, .int 0, .int 0]
structure Cu (M : Sto) (n : Nat) (ws : List W) (a : Nat) : Prop where
  h : M.m n = some (CurO ws a)
  l : ws.length ≤ 1000
  w : ∀ w ∈ ws, w.length ≤ 1000000
theorem Cu.nx {M : Sto} {n : Nat} {ws : List W} {a : Nat} (h : Cu M n ws a) : Cu (M.put n (CurO ws ((a : Int) + 1))) n ws (a + 1) := ⟨by simp [put_m], h.l, h.w⟩
def wdD : Option W → D
  | some w => .str w
  | none => .non
theorem nms_len (l : List W) : (nms l).length = l.length := by simp [nms]
theorem word_ok (q : Nat) {M : Sto} {n : Nat} {ws : List W} {a : Nat} (h : Cu M n ws a) : callA tb.P (Cl (q + 1)) 5 [.ref n] M = .ok (wdD ws[a]?) M := by
  apply WR.eqv
  rw [c_Cursor_word, z8]
  unfold b_Cursor_word
  have hm := h.h
  by_cases ha : a < ws.length
  · have hx : (nms ws)[a]? = some (.str (ws[a]'ha)) := by simp [nms, ha]
    have ux : ∀ h, (nms ws)[a]'h = .str (ws[a]'ha) := fun h => by simp [nms]
    have e : ws[a]? = some (ws[a]'ha) := List.getElem?_eq_getElem ha
    have ha' : (a : Int) < ws.length := by omega
    simp (config := {maxSteps := 4000000, dsimp := false, implicitDefEqProofs := false}) [↓zd2, ↓ze0, ↓zc2, ↓zcc, ↓zc0, ↓zd7, ↓zd9, ↓zc5, ↓zc6, ↓zbd, ↓zda, ↓zd0, ↓zc3, ↓zc4, ↓zd5, ↓zd6, ↓zdb, ↓zbe, ↓zce, ↓zdf, ↓zde, ↓zdd, ↓zdc, ↓ze1, ↓zd3, ↓zd4, ↓zc8, ↓zbf, ↓zc1, ↓zcf, ↓zca, ↓zcb, ↓zd1, ↓zcd, ↓zc9, ↓zd8, ↓zc7, ↓w_compL_nil, ↓w_compL_cons, ↓ze4, ↓ze3, ↓ze2, ↓ze5, ↓z106, ↓z103, ↓z105, ↓z101, ↓z107, ↓z104, ↓z102, ↓ze8, ↓zf5, ↓zfd, ↓zf6, ↓zfb, ↓ze6, ↓zfc, ↓zf4, ↓ze9, ↓ze7, ↓zf2, ↓zed, ↓zf3, ↓zec, ↓zf1, ↓zee, ↓zef, ↓zfe, ↓zf9, ↓zfa, ↓zf8, ↓zf7, ↓zea, ↓zeb, ↓zf0, ↓z100, ↓zff, ↓z1q, ↓z1q', ↓z12, ↓z12', ↓z2a, ↓z2a', ↓z1c, ↓z7, ↓z15, ↓z21, ↓ze, ↓z19, ↓z26, ↓z3, ↓zc, ↓zd, ↓zf, ↓z27, ↓z8, WO_some, WO_none, IfO_true, IfO_false, z10, za, z0, z1a, z17, z11, z28, z29, z1d, z1f, z23, z1b, ↓z73, ↓z74, ↓z6f, ↓z71, ↓z72, ↓z31, ↓z30, ↓z2f, ↓z2c, ↓z2e, ↓z78, ↓z76, ↓z75, ↓z79, ↓z77, if_ok, if_bl, if_and, if_or, getV, getB, opBin, opCmp, opIdx, opCut, opBi, tru, look, look_r, eqD, eqDs, Z.pure, pures, dep, deps, put_m, put_nx, new_m, new_nx, putIx, putOwn, insOf, lkN, putL, putN, thaw, getO, ixOf, LIM, B64, asI, Z.b2, z6d, z6e, z4a, z4b, z48, z49, z69, z6a, z32, z33, z34, z35, z36, z37, z42, z43, z3e, z3f, z40, z41, z38, z39, z3a, z3b, z3c, z3d, z44, z45, z6b, z6c, z52, z53, z56, z57, z58, z66, z67, z68, z5e, z5f, z60, z59, z5a, z64, z65, z50, z51, z4e, z4f, z54, z55, z61, z62, z63, z5b, z5c, z5d, z4c, z4d, z46, z47, z82, z83, z84, z85, z86, z87, z88, zbc, zbb, zba, t_prp_0_7, z8a, z89, z7a, z7b, z7c, z7d, z7e, z7f, z80, z81, z8b, z8c, z97, za2, zad, zb5, zb6, zb7, zb8, zb9, z8d, z8e, z8f, z90, z91, z92, z93, z94, z95, z96, z98, z99, z9a, z9b, z9c, z9d, z9e, z9f, za0, za1, za3, za4, za5, za6, za7, za8, za9, zaa, zab, zac, zae, zaf, zb0, zb1, zb2, zb3, zb4, hm, CurO, nms_len, ha, ha', hx, ux, e, wdD]
  · have e : ws[a]? = none := List.getElem?_eq_none (by omega)
    have ha' : ¬ (a : Int) < ws.length := by omega
    simp (config := {maxSteps := 4000000, dsimp := false, implicitDefEqProofs := false}) [↓zd2, ↓ze0, ↓zc2, ↓zcc, ↓zc0, ↓zd7, ↓zd9, ↓zc5, ↓zc6, ↓zbd, ↓zda, ↓zd0, ↓zc3, ↓zc4, ↓zd5, ↓zd6, ↓zdb, ↓zbe, ↓zce, ↓zdf, ↓zde, ↓zdd, ↓zdc, ↓ze1, ↓zd3, ↓zd4, ↓zc8, ↓zbf, ↓zc1, ↓zcf, ↓zca, ↓zcb, ↓zd1, ↓zcd, ↓zc9, ↓zd8, ↓zc7, ↓w_compL_nil, ↓w_compL_cons, ↓ze4, ↓ze3, ↓ze2, ↓ze5, ↓z106, ↓z103, ↓z105, ↓z101, ↓z107, ↓z104, ↓z102, ↓ze8, ↓zf5, ↓zfd, ↓zf6, ↓zfb, ↓ze6, ↓zfc, ↓zf4, ↓ze9, ↓ze7, ↓zf2, ↓zed, ↓zf3, ↓zec, ↓zf1, ↓zee, ↓zef, ↓zfe, ↓zf9, ↓zfa, ↓zf8, ↓zf7, ↓zea, ↓zeb, ↓zf0, ↓z100, ↓zff, ↓z1q, ↓z1q', ↓z12, ↓z12', ↓z2a, ↓z2a', ↓z1c, ↓z7, ↓z15, ↓z21, ↓ze, ↓z19, ↓z26, ↓z3, ↓zc, ↓zd, ↓zf, ↓z27, ↓z8, WO_some, WO_none, IfO_true, IfO_false, z10, za, z0, z1a, z17, z11, z28, z29, z1d, z1f, z23, z1b, ↓z73, ↓z74, ↓z6f, ↓z71, ↓z72, ↓z31, ↓z30, ↓z2f, ↓z2c, ↓z2e, ↓z78, ↓z76, ↓z75, ↓z79, ↓z77, if_ok, if_bl, if_and, if_or, getV, getB, opBin, opCmp, opIdx, opCut, opBi, tru, look, look_r, eqD, eqDs, Z.pure, pures, dep, deps, put_m, put_nx, new_m, new_nx, putIx, putOwn, insOf, lkN, putL, putN, thaw, getO, ixOf, LIM, B64, asI, Z.b2, z6d, z6e, z4a, z4b, z48, z49, z69, z6a, z32, z33, z34, z35, z36, z37, z42, z43, z3e, z3f, z40, z41, z38, z39, z3a, z3b, z3c, z3d, z44, z45, z6b, z6c, z52, z53, z56, z57, z58, z66, z67, z68, z5e, z5f, z60, z59, z5a, z64, z65, z50, z51, z4e, z4f, z54, z55, z61, z62, z63, z5b, z5c, z5d, z4c, z4d, z46, z47, z82, z83, z84, z85, z86, z87, z88, zbc, zbb, zba, t_prp_0_7, z8a, z89, z7a, z7b, z7c, z7d, z7e, z7f, z80, z81, z8b, z8c, z97, za2, zad, zb5, zb6, zb7, zb8, zb9, z8d, z8e, z8f, z90, z91, z92, z93, z94, z95, z96, z98, z99, z9a, z9b, z9c, z9d, z9e, z9f, za0, za1, za3, za4, za5, za6, za7, za8, za9, zaa, zab, zac, zae, zaf, zb0, zb1, zb2, zb3, zb4, hm, CurO, nms_len, ha', e, wdD]
def Tk (M : Sto) (n : Nat) (ws : List W) (a : Nat) (r : Option D) (v : D) (M' : Sto) : Prop := r = some v ∧ Cu M' n ws (a + 1)
def Tx (a : Nat) (r : Option D) (k : Nat) (d : D) (M' : Sto) : Prop := r = none ∧ k = 1 ∧ d = .int a
theorem take_name_ok (q : Nat) {M : Sto} {n : Nat} {ws : List W} {a : Nat} (h : Cu M n ws a) (L : List W) :
    WR (Tk M n ws a (ws[a]?.bind fun w => if w ∈ L then some (.str w) else none)) (Tx a (ws[a]?.bind fun w => if w ∈ L then some (.str w) else none)) (callA tb.P (Cl (q + 2)) 7 [.ref n, .tup (nms L)] M) := by
  rw [c_Cursor_take_name, z8]
  unfold b_Cursor_take_name
  have hw := word_ok q h
  have hm := h.h
  cases e : ws[a]? with
  | none =>
    rw [e] at hw
    have hF : Tx a (none.bind fun w => if w ∈ L then some (D.str w) else none) 1 (.int a) M := ⟨rfl, rfl, rfl⟩
    simp (config := {maxSteps := 4000000, dsimp := false, implicitDefEqProofs := false}) [↓zd2, ↓ze0, ↓zc2, ↓zcc, ↓zc0, ↓zd7, ↓zd9, ↓zc5, ↓zc6, ↓zbd, ↓zda, ↓zd0, ↓zc3, ↓zc4, ↓zd5, ↓zd6, ↓zdb, ↓zbe, ↓zce, ↓zdf, ↓zde, ↓zdd, ↓zdc, ↓ze1, ↓zd3, ↓zd4, ↓zc8, ↓zbf, ↓zc1, ↓zcf, ↓zca, ↓zcb, ↓zd1, ↓zcd, ↓zc9, ↓zd8, ↓zc7, ↓w_compL_nil, ↓w_compL_cons, ↓ze4, ↓ze3, ↓ze2, ↓ze5, ↓z106, ↓z103, ↓z105, ↓z101, ↓z107, ↓z104, ↓z102, ↓ze8, ↓zf5, ↓zfd, ↓zf6, ↓zfb, ↓ze6, ↓zfc, ↓zf4, ↓ze9, ↓ze7, ↓zf2, ↓zed, ↓zf3, ↓zec, ↓zf1, ↓zee, ↓zef, ↓zfe, ↓zf9, ↓zfa, ↓zf8, ↓zf7, ↓zea, ↓zeb, ↓zf0, ↓z100, ↓zff, ↓z1q, ↓z1q', ↓z12, ↓z12', ↓z2a, ↓z2a', ↓z1c, ↓z7, ↓z15, ↓z21, ↓ze, ↓z19, ↓z26, ↓z3, ↓zc, ↓zd, ↓zf, ↓z27, ↓z8, WO_some, WO_none, IfO_true, IfO_false, z10, za, z0, z1a, z17, z11, z28, z29, z1d, z1f, z23, z1b, ↓z73, ↓z74, ↓z6f, ↓z71, ↓z72, ↓z31, ↓z30, ↓z2f, ↓z2c, ↓z2e, ↓z78, ↓z76, ↓z75, ↓z79, ↓z77, if_ok, if_bl, if_and, if_or, getV, getB, opBin, opCmp, opIdx, opCut, opBi, tru, look, look_r, eqD, eqDs, Z.pure, pures, dep, deps, put_m, put_nx, new_m, new_nx, putIx, putOwn, insOf, lkN, putL, putN, thaw, getO, ixOf, LIM, B64, asI, Z.b2, z6d, z6e, z4a, z4b, z48, z49, z69, z6a, z32, z33, z34, z35, z36, z37, z42, z43, z3e, z3f, z40, z41, z38, z39, z3a, z3b, z3c, z3d, z44, z45, z6b, z6c, z52, z53, z56, z57, z58, z66, z67, z68, z5e, z5f, z60, z59, z5a, z64, z65, z50, z51, z4e, z4f, z54, z55, z61, z62, z63, z5b, z5c, z5d, z4c, z4d, z46, z47, z82, z83, z84, z85, z86, z87, z88, zbc, zbb, zba, t_prp_0_7, z8a, z89, z7a, z7b, z7c, z7d, z7e, z7f, z80, z81, z8b, z8c, z97, za2, zad, zb5, zb6, zb7, zb8, zb9, z8d, z8e, z8f, z90, z91, z92, z93, z94, z95, z96, z98, z99, z9a, z9b, z9c, z9d, z9e, z9f, za0, za1, za3, za4, za5, za6, za7, za8, za9, zaa, zab, zac, zae, zaf, zb0, zb1, zb2, zb3, zb4, hw, wdD, hm, CurO]
    exact hF
  | some w =>
    rw [e] at hw
    have i1 := opIn_t w L
    by_cases k : w ∈ L
    · have k' : decide (w ∈ L) = true := by simpa using k
      rw [k'] at i1
      have hT : Tk M n ws a ((some w).bind fun w => if w ∈ L then some (D.str w) else none) (.str w) (M.put n (CurO ws ((a : Int) + 1))) := ⟨by simp [k], h.nx⟩
      unfold CurO at hT
      simp (config := {maxSteps := 4000000, dsimp := false, implicitDefEqProofs := false}) [↓zd2, ↓ze0, ↓zc2, ↓zcc, ↓zc0, ↓zd7, ↓zd9, ↓zc5, ↓zc6, ↓zbd, ↓zda, ↓zd0, ↓zc3, ↓zc4, ↓zd5, ↓zd6, ↓zdb, ↓zbe, ↓zce, ↓zdf, ↓zde, ↓zdd, ↓zdc, ↓ze1, ↓zd3, ↓zd4, ↓zc8, ↓zbf, ↓zc1, ↓zcf, ↓zca, ↓zcb, ↓zd1, ↓zcd, ↓zc9, ↓zd8, ↓zc7, ↓w_compL_nil, ↓w_compL_cons, ↓ze4, ↓ze3, ↓ze2, ↓ze5, ↓z106, ↓z103, ↓z105, ↓z101, ↓z107, ↓z104, ↓z102, ↓ze8, ↓zf5, ↓zfd, ↓zf6, ↓zfb, ↓ze6, ↓zfc, ↓zf4, ↓ze9, ↓ze7, ↓zf2, ↓zed, ↓zf3, ↓zec, ↓zf1, ↓zee, ↓zef, ↓zfe, ↓zf9, ↓zfa, ↓zf8, ↓zf7, ↓zea, ↓zeb, ↓zf0, ↓z100, ↓zff, ↓z1q, ↓z1q', ↓z12, ↓z12', ↓z2a, ↓z2a', ↓z1c, ↓z7, ↓z15, ↓z21, ↓ze, ↓z19, ↓z26, ↓z3, ↓zc, ↓zd, ↓zf, ↓z27, ↓z8, WO_some, WO_none, IfO_true, IfO_false, z10, za, z0, z1a, z17, z11, z28, z29, z1d, z1f, z23, z1b, ↓z73, ↓z74, ↓z6f, ↓z71, ↓z72, ↓z31, ↓z30, ↓z2f, ↓z2c, ↓z2e, ↓z78, ↓z76, ↓z75, ↓z79, ↓z77, if_ok, if_bl, if_and, if_or, getV, getB, opBin, opCmp, opIdx, opCut, opBi, tru, look, look_r, eqD, eqDs, Z.pure, pures, dep, deps, put_m, put_nx, new_m, new_nx, putIx, putOwn, insOf, lkN, putL, putN, thaw, getO, ixOf, LIM, B64, asI, Z.b2, z6d, z6e, z4a, z4b, z48, z49, z69, z6a, z32, z33, z34, z35, z36, z37, z42, z43, z3e, z3f, z40, z41, z38, z39, z3a, z3b, z3c, z3d, z44, z45, z6b, z6c, z52, z53, z56, z57, z58, z66, z67, z68, z5e, z5f, z60, z59, z5a, z64, z65, z50, z51, z4e, z4f, z54, z55, z61, z62, z63, z5b, z5c, z5d, z4c, z4d, z46, z47, z82, z83, z84, z85, z86, z87, z88, zbc, zbb, zba, t_prp_0_7, z8a, z89, z7a, z7b, z7c, z7d, z7e, z7f, z80, z81, z8b, z8c, z97, za2, zad, zb5, zb6, zb7, zb8, zb9, z8d, z8e, z8f, z90, z91, z92, z93, z94, z95, z96, z98, z99, z9a, z9b, z9c, z9d, z9e, z9f, za0, za1, za3, za4, za5, za6, za7, za8, za9, zaa, zab, zac, zae, zaf, zb0, zb1, zb2, zb3, zb4, hw, wdD, hm, CurO, i1, aatO]
      exact hT
    · have k' : decide (w ∈ L) = false := by simpa using k
      rw [k'] at i1
      have hF : Tx a ((some w).bind fun w => if w ∈ L then some (D.str w) else none) 1 (.int a) M := ⟨by simp [k], rfl, rfl⟩
      simp (config := {maxSteps := 4000000, dsimp := false, implicitDefEqProofs := false}) [↓zd2, ↓ze0, ↓zc2, ↓zcc, ↓zc0, ↓zd7, ↓zd9, ↓zc5, ↓zc6, ↓zbd, ↓zda, ↓zd0, ↓zc3, ↓zc4, ↓zd5, ↓zd6, ↓zdb, ↓zbe, ↓zce, ↓zdf, ↓zde, ↓zdd, ↓zdc, ↓ze1, ↓zd3, ↓zd4, ↓zc8, ↓zbf, ↓zc1, ↓zcf, ↓zca, ↓zcb, ↓zd1, ↓zcd, ↓zc9, ↓zd8, ↓zc7, ↓w_compL_nil, ↓w_compL_cons, ↓ze4, ↓ze3, ↓ze2, ↓ze5, ↓z106, ↓z103, ↓z105, ↓z101, ↓z107, ↓z104, ↓z102, ↓ze8, ↓zf5, ↓zfd, ↓zf6, ↓zfb, ↓ze6, ↓zfc, ↓zf4, ↓ze9, ↓ze7, ↓zf2, ↓zed, ↓zf3, ↓zec, ↓zf1, ↓zee, ↓zef, ↓zfe, ↓zf9, ↓zfa, ↓zf8, ↓zf7, ↓zea, ↓zeb, ↓zf0, ↓z100, ↓zff, ↓z1q, ↓z1q', ↓z12, ↓z12', ↓z2a, ↓z2a', ↓z1c, ↓z7, ↓z15, ↓z21, ↓ze, ↓z19, ↓z26, ↓z3, ↓zc, ↓zd, ↓zf, ↓z27, ↓z8, WO_some, WO_none, IfO_true, IfO_false, z10, za, z0, z1a, z17, z11, z28, z29, z1d, z1f, z23, z1b, ↓z73, ↓z74, ↓z6f, ↓z71, ↓z72, ↓z31, ↓z30, ↓z2f, ↓z2c, ↓z2e, ↓z78, ↓z76, ↓z75, ↓z79, ↓z77, if_ok, if_bl, if_and, if_or, getV, getB, opBin, opCmp, opIdx, opCut, opBi, tru, look, look_r, eqD, eqDs, Z.pure, pures, dep, deps, put_m, put_nx, new_m, new_nx, putIx, putOwn, insOf, lkN, putL, putN, thaw, getO, ixOf, LIM, B64, asI, Z.b2, z6d, z6e, z4a, z4b, z48, z49, z69, z6a, z32, z33, z34, z35, z36, z37, z42, z43, z3e, z3f, z40, z41, z38, z39, z3a, z3b, z3c, z3d, z44, z45, z6b, z6c, z52, z53, z56, z57, z58, z66, z67, z68, z5e, z5f, z60, z59, z5a, z64, z65, z50, z51, z4e, z4f, z54, z55, z61, z62, z63, z5b, z5c, z5d, z4c, z4d, z46, z47, z82, z83, z84, z85, z86, z87, z88, zbc, zbb, zba, t_prp_0_7, z8a, z89, z7a, z7b, z7c, z7d, z7e, z7f, z80, z81, z8b, z8c, z97, za2, zad, zb5, zb6, zb7, zb8, zb9, z8d, z8e, z8f, z90, z91, z92, z93, z94, z95, z96, z98, z99, z9a, z9b, z9c, z9d, z9e, z9f, za0, za1, za3, za4, za5, za6, za7, za8, za9, zaa, zab, zac, zae, zaf, zb0, zb1, zb2, zb3, zb4, hw, wdD, hm, CurO, i1]
      exact hF
theorem take_new_ok (q : Nat) {M : Sto} {n : Nat} {ws : List W} {a : Nat} (h : Cu M n ws a) :
    WR (Tk M n ws a (ws[a]?.bind fun w => if isN w = true then some (.str w) else none)) (Tx a (ws[a]?.bind fun w => if isN w = true then some (.str w) else none)) (callA tb.P (Cl (q + 2)) 8 [.ref n, .tup []] M) := by
  rw [c_Cursor_take_new_name, z8]
  unfold b_Cursor_take_new_name
  have hw := word_ok q h
  have hm := h.h
  cases e : ws[a]? with
  | none =>
    rw [e] at hw
    have hF : Tx a (none.bind fun w => if isN w = true then some (D.str w) else none) 1 (.int a) M := ⟨rfl, rfl, rfl⟩
    simp (config := {maxSteps := 4000000, dsimp := false, implicitDefEqProofs := false}) [↓zd2, ↓ze0, ↓zc2, ↓zcc, ↓zc0, ↓zd7, ↓zd9, ↓zc5, ↓zc6, ↓zbd, ↓zda, ↓zd0, ↓zc3, ↓zc4, ↓zd5, ↓zd6, ↓zdb, ↓zbe, ↓zce, ↓zdf, ↓zde, ↓zdd, ↓zdc, ↓ze1, ↓zd3, ↓zd4, ↓zc8, ↓zbf, ↓zc1, ↓zcf, ↓zca, ↓zcb, ↓zd1, ↓zcd, ↓zc9, ↓zd8, ↓zc7, ↓w_compL_nil, ↓w_compL_cons, ↓ze4, ↓ze3, ↓ze2, ↓ze5, ↓z106, ↓z103, ↓z105, ↓z101, ↓z107, ↓z104, ↓z102, ↓ze8, ↓zf5, ↓zfd, ↓zf6, ↓zfb, ↓ze6, ↓zfc, ↓zf4, ↓ze9, ↓ze7, ↓zf2, ↓zed, ↓zf3, ↓zec, ↓zf1, ↓zee, ↓zef, ↓zfe, ↓zf9, ↓zfa, ↓zf8, ↓zf7, ↓zea, ↓zeb, ↓zf0, ↓z100, ↓zff, ↓z1q, ↓z1q', ↓z12, ↓z12', ↓z2a, ↓z2a', ↓z1c, ↓z7, ↓z15, ↓z21, ↓ze, ↓z19, ↓z26, ↓z3, ↓zc, ↓zd, ↓zf, ↓z27, ↓z8, WO_some, WO_none, IfO_true, IfO_false, z10, za, z0, z1a, z17, z11, z28, z29, z1d, z1f, z23, z1b, ↓z73, ↓z74, ↓z6f, ↓z71, ↓z72, ↓z31, ↓z30, ↓z2f, ↓z2c, ↓z2e, ↓z78, ↓z76, ↓z75, ↓z79, ↓z77, if_ok, if_bl, if_and, if_or, getV, getB, opBin, opCmp, opIdx, opCut, opBi, tru, look, look_r, eqD, eqDs, Z.pure, pures, dep, deps, put_m, put_nx, new_m, new_nx, putIx, putOwn, insOf, lkN, putL, putN, thaw, getO, ixOf, LIM, B64, asI, Z.b2, z6d, z6e, z4a, z4b, z48, z49, z69, z6a, z32, z33, z34, z35, z36, z37, z42, z43, z3e, z3f, z40, z41, z38, z39, z3a, z3b, z3c, z3d, z44, z45, z6b, z6c, z52, z53, z56, z57, z58, z66, z67, z68, z5e, z5f, z60, z59, z5a, z64, z65, z50, z51, z4e, z4f, z54, z55, z61, z62, z63, z5b, z5c, z5d, z4c, z4d, z46, z47, z82, z83, z84, z85, z86, z87, z88, zbc, zbb, zba, t_prp_0_7, z8a, z89, z7a, z7b, z7c, z7d, z7e, z7f, z80, z81, z8b, z8c, z97, za2, zad, zb5, zb6, zb7, zb8, zb9, z8d, z8e, z8f, z90, z91, z92, z93, z94, z95, z96, z98, z99, z9a, z9b, z9c, z9d, z9e, z9f, za0, za1, za3, za4, za5, za6, za7, za8, za9, zaa, zab, zac, zae, zaf, zb0, zb1, zb2, zb3, zb4, hw, wdD, hm, CurO]
    exact hF
  | some w =>
    rw [e] at hw
    have hl := h.w w (List.mem_of_getElem? e)
    have i1 := opIn_t w []
    have i1 : ∀ M, opIn (.str w) (.tup []) M = some false := i1
    have i2 := fun M => is_name_ok q w (by omega) M
    cases k : isN w with
    | true =>
      rw [k] at i2
      have hT : Tk M n ws a ((some w).bind fun w => if isN w = true then some (D.str w) else none) (.str w) (M.put n (CurO ws ((a : Int) + 1))) := ⟨by simp [k], h.nx⟩
      unfold CurO at hT
      simp (config := {maxSteps := 4000000, dsimp := false, implicitDefEqProofs := false}) [↓zd2, ↓ze0, ↓zc2, ↓zcc, ↓zc0, ↓zd7, ↓zd9, ↓zc5, ↓zc6, ↓zbd, ↓zda, ↓zd0, ↓zc3, ↓zc4, ↓zd5, ↓zd6, ↓zdb, ↓zbe, ↓zce, ↓zdf, ↓zde, ↓zdd, ↓zdc, ↓ze1, ↓zd3, ↓zd4, ↓zc8, ↓zbf, ↓zc1, ↓zcf, ↓zca, ↓zcb, ↓zd1, ↓zcd, ↓zc9, ↓zd8, ↓zc7, ↓w_compL_nil, ↓w_compL_cons, ↓ze4, ↓ze3, ↓ze2, ↓ze5, ↓z106, ↓z103, ↓z105, ↓z101, ↓z107, ↓z104, ↓z102, ↓ze8, ↓zf5, ↓zfd, ↓zf6, ↓zfb, ↓ze6, ↓zfc, ↓zf4, ↓ze9, ↓ze7, ↓zf2, ↓zed, ↓zf3, ↓zec, ↓zf1, ↓zee, ↓zef, ↓zfe, ↓zf9, ↓zfa, ↓zf8, ↓zf7, ↓zea, ↓zeb, ↓zf0, ↓z100, ↓zff, ↓z1q, ↓z1q', ↓z12, ↓z12', ↓z2a, ↓z2a', ↓z1c, ↓z7, ↓z15, ↓z21, ↓ze, ↓z19, ↓z26, ↓z3, ↓zc, ↓zd, ↓zf, ↓z27, ↓z8, WO_some, WO_none, IfO_true, IfO_false, z10, za, z0, z1a, z17, z11, z28, z29, z1d, z1f, z23, z1b, ↓z73, ↓z74, ↓z6f, ↓z71, ↓z72, ↓z31, ↓z30, ↓z2f, ↓z2c, ↓z2e, ↓z78, ↓z76, ↓z75, ↓z79, ↓z77, if_ok, if_bl, if_and, if_or, getV, getB, opBin, opCmp, opIdx, opCut, opBi, tru, look, look_r, eqD, eqDs, Z.pure, pures, dep, deps, put_m, put_nx, new_m, new_nx, putIx, putOwn, insOf, lkN, putL, putN, thaw, getO, ixOf, LIM, B64, asI, Z.b2, z6d, z6e, z4a, z4b, z48, z49, z69, z6a, z32, z33, z34, z35, z36, z37, z42, z43, z3e, z3f, z40, z41, z38, z39, z3a, z3b, z3c, z3d, z44, z45, z6b, z6c, z52, z53, z56, z57, z58, z66, z67, z68, z5e, z5f, z60, z59, z5a, z64, z65, z50, z51, z4e, z4f, z54, z55, z61, z62, z63, z5b, z5c, z5d, z4c, z4d, z46, z47, z82, z83, z84, z85, z86, z87, z88, zbc, zbb, zba, t_prp_0_7, z8a, z89, z7a, z7b, z7c, z7d, z7e, z7f, z80, z81, z8b, z8c, z97, za2, zad, zb5, zb6, zb7, zb8, zb9, z8d, z8e, z8f, z90, z91, z92, z93, z94, z95, z96, z98, z99, z9a, z9b, z9c, z9d, z9e, z9f, za0, za1, za3, za4, za5, za6, za7, za8, za9, zaa, zab, zac, zae, zaf, zb0, zb1, zb2, zb3, zb4, hw, wdD, hm, CurO, i1, i2, aatO]
      exact hT
    | false =>
      rw [k] at i2
      have hF : Tx a ((some w).bind fun w => if isN w = true then some (D.str w) else none) 1 (.int a) M := ⟨by simp [k], rfl, rfl⟩
      simp (config := {maxSteps := 4000000, dsimp := false, implicitDefEqProofs := false}) [↓zd2, ↓ze0, ↓zc2, ↓zcc, ↓zc0, ↓zd7, ↓zd9, ↓zc5, ↓zc6, ↓zbd, ↓zda, ↓zd0, ↓zc3, ↓zc4, ↓zd5, ↓zd6, ↓zdb, ↓zbe, ↓zce, ↓zdf, ↓zde, ↓zdd, ↓zdc, ↓ze1, ↓zd3, ↓zd4, ↓zc8, ↓zbf, ↓zc1, ↓zcf, ↓zca, ↓zcb, ↓zd1, ↓zcd, ↓zc9, ↓zd8, ↓zc7, ↓w_compL_nil, ↓w_compL_cons, ↓ze4, ↓ze3, ↓ze2, ↓ze5, ↓z106, ↓z103, ↓z105, ↓z101, ↓z107, ↓z104, ↓z102, ↓ze8, ↓zf5, ↓zfd, ↓zf6, ↓zfb, ↓ze6, ↓zfc, ↓zf4, ↓ze9, ↓ze7, ↓zf2, ↓zed, ↓zf3, ↓zec, ↓zf1, ↓zee, ↓zef, ↓zfe, ↓zf9, ↓zfa, ↓zf8, ↓zf7, ↓zea, ↓zeb, ↓zf0, ↓z100, ↓zff, ↓z1q, ↓z1q', ↓z12, ↓z12', ↓z2a, ↓z2a', ↓z1c, ↓z7, ↓z15, ↓z21, ↓ze, ↓z19, ↓z26, ↓z3, ↓zc, ↓zd, ↓zf, ↓z27, ↓z8, WO_some, WO_none, IfO_true, IfO_false, z10, za, z0, z1a, z17, z11, z28, z29, z1d, z1f, z23, z1b, ↓z73, ↓z74, ↓z6f, ↓z71, ↓z72, ↓z31, ↓z30, ↓z2f, ↓z2c, ↓z2e, ↓z78, ↓z76, ↓z75, ↓z79, ↓z77, if_ok, if_bl, if_and, if_or, getV, getB, opBin, opCmp, opIdx, opCut, opBi, tru, look, look_r, eqD, eqDs, Z.pure, pures, dep, deps, put_m, put_nx, new_m, new_nx, putIx, putOwn, insOf, lkN, putL, putN, thaw, getO, ixOf, LIM, B64, asI, Z.b2, z6d, z6e, z4a, z4b, z48, z49, z69, z6a, z32, z33, z34, z35, z36, z37, z42, z43, z3e, z3f, z40, z41, z38, z39, z3a, z3b, z3c, z3d, z44, z45, z6b, z6c, z52, z53, z56, z57, z58, z66, z67, z68, z5e, z5f, z60, z59, z5a, z64, z65, z50, z51, z4e, z4f, z54, z55, z61, z62, z63, z5b, z5c, z5d, z4c, z4d, z46, z47, z82, z83, z84, z85, z86, z87, z88, zbc, zbb, zba, t_prp_0_7, z8a, z89, z7a, z7b, z7c, z7d, z7e, z7f, z80, z81, z8b, z8c, z97, za2, zad, zb5, zb6, zb7, zb8, zb9, z8d, z8e, z8f, z90, z91, z92, z93, z94, z95, z96, z98, z99, z9a, z9b, z9c, z9d, z9e, z9f, za0, za1, za3, za4, za5, za6, za7, za8, za9, zaa, zab, zac, zae, zaf, zb0, zb1, zb2, zb3, zb4, hw, wdD, hm, CurO, i1, i2]
      exact hF
theorem take_num_ok (q : Nat) {M : Sto} {n : Nat} {ws : List W} {a : Nat} (h : Cu M n ws a) :
    WR (Tk M n ws a (ws[a]?.bind fun w => (numW w).bind fun k => if 0 ≤ k ∧ k ≤ 65535 then some (.int k) else none)) (Tx a (ws[a]?.bind fun w => (numW w).bind fun k => if 0 ≤ k ∧ k ≤ 65535 then some (.int k) else none)) (callA tb.P (Cl (q + 2)) 6 [.ref n, .int 0, .int 65535] M) := by
  rw [c_Cursor_take_number, z8]
  unfold b_Cursor_take_number
  have hw := word_ok q h
  have hm := h.h
  cases e : ws[a]? with
  | none =>
    rw [e] at hw
    have hF : Tx a (none.bind fun w => (numW w).bind fun k => if 0 ≤ k ∧ k ≤ 65535 then some (D.int k) else none) 1 (.int a) M := ⟨rfl, rfl, rfl⟩
    simp (config := {maxSteps := 4000000, dsimp := false, implicitDefEqProofs := false}) [↓zd2, ↓ze0, ↓zc2, ↓zcc, ↓zc0, ↓zd7, ↓zd9, ↓zc5, ↓zc6, ↓zbd, ↓zda, ↓zd0, ↓zc3, ↓zc4, ↓zd5, ↓zd6, ↓zdb, ↓zbe, ↓zce, ↓zdf, ↓zde, ↓zdd, ↓zdc, ↓ze1, ↓zd3, ↓zd4, ↓zc8, ↓zbf, ↓zc1, ↓zcf, ↓zca, ↓zcb, ↓zd1, ↓zcd, ↓zc9, ↓zd8, ↓zc7, ↓w_compL_nil, ↓w_compL_cons, ↓ze4, ↓ze3, ↓ze2, ↓ze5, ↓z106, ↓z103, ↓z105, ↓z101, ↓z107, ↓z104, ↓z102, ↓ze8, ↓zf5, ↓zfd, ↓zf6, ↓zfb, ↓ze6, ↓zfc, ↓zf4, ↓ze9, ↓ze7, ↓zf2, ↓zed, ↓zf3, ↓zec, ↓zf1, ↓zee, ↓zef, ↓zfe, ↓zf9, ↓zfa, ↓zf8, ↓zf7, ↓zea, ↓zeb, ↓zf0, ↓z100, ↓zff, ↓z1q, ↓z1q', ↓z12, ↓z12', ↓z2a, ↓z2a', ↓z1c, ↓z7, ↓z15, ↓z21, ↓ze, ↓z19, ↓z26, ↓z3, ↓zc, ↓zd, ↓zf, ↓z27, ↓z8, WO_some, WO_none, IfO_true, IfO_false, z10, za, z0, z1a, z17, z11, z28, z29, z1d, z1f, z23, z1b, ↓z73, ↓z74, ↓z6f, ↓z71, ↓z72, ↓z31, ↓z30, ↓z2f, ↓z2c, ↓z2e, ↓z78, ↓z76, ↓z75, ↓z79, ↓z77, if_ok, if_bl, if_and, if_or, getV, getB, opBin, opCmp, opIdx, opCut, opBi, tru, look, look_r, eqD, eqDs, Z.pure, pures, dep, deps, put_m, put_nx, new_m, new_nx, putIx, putOwn, insOf, lkN, putL, putN, thaw, getO, ixOf, LIM, B64, asI, Z.b2, z6d, z6e, z4a, z4b, z48, z49, z69, z6a, z32, z33, z34, z35, z36, z37, z42, z43, z3e, z3f, z40, z41, z38, z39, z3a, z3b, z3c, z3d, z44, z45, z6b, z6c, z52, z53, z56, z57, z58, z66, z67, z68, z5e, z5f, z60, z59, z5a, z64, z65, z50, z51, z4e, z4f, z54, z55, z61, z62, z63, z5b, z5c, z5d, z4c, z4d, z46, z47, z82, z83, z84, z85, z86, z87, z88, zbc, zbb, zba, t_prp_0_7, z8a, z89, z7a, z7b, z7c, z7d, z7e, z7f, z80, z81, z8b, z8c, z97, za2, zad, zb5, zb6, zb7, zb8, zb9, z8d, z8e, z8f, z90, z91, z92, z93, z94, z95, z96, z98, z99, z9a, z9b, z9c, z9d, z9e, z9f, za0, za1, za3, za4, za5, za6, za7, za8, za9, zaa, zab, zac, zae, zaf, zb0, zb1, zb2, zb3, zb4, hw, wdD, hm, CurO]
    exact hF
  | some w =>
    rw [e] at hw
    have hl := h.w w (List.mem_of_getElem? e)
    have i2 := fun M => number_ok q w (by omega) M
    cases k : numW w with
    | none =>
      rw [k] at i2
      have hF : Tx a ((some w).bind fun w => (numW w).bind fun k => if 0 ≤ k ∧ k ≤ 65535 then some (D.int k) else none) 1 (.int a) M := ⟨by simp [k], rfl, rfl⟩
      simp (config := {maxSteps := 4000000, dsimp := false, implicitDefEqProofs := false}) [↓zd2, ↓ze0, ↓zc2, ↓zcc, ↓zc0, ↓zd7, ↓zd9, ↓zc5, ↓zc6, ↓zbd, ↓zda, ↓zd0, ↓zc3, ↓zc4, ↓zd5, ↓zd6, ↓zdb, ↓zbe, ↓zce, ↓zdf, ↓zde, ↓zdd, ↓zdc, ↓ze1, ↓zd3, ↓zd4, ↓zc8, ↓zbf, ↓zc1, ↓zcf, ↓zca, ↓zcb, ↓zd1, ↓zcd, ↓zc9, ↓zd8, ↓zc7, ↓w_compL_nil, ↓w_compL_cons, ↓ze4, ↓ze3, ↓ze2, ↓ze5, ↓z106, ↓z103, ↓z105, ↓z101, ↓z107, ↓z104, ↓z102, ↓ze8, ↓zf5, ↓zfd, ↓zf6, ↓zfb, ↓ze6, ↓zfc, ↓zf4, ↓ze9, ↓ze7, ↓zf2, ↓zed, ↓zf3, ↓zec, ↓zf1, ↓zee, ↓zef, ↓zfe, ↓zf9, ↓zfa, ↓zf8, ↓zf7, ↓zea, ↓zeb, ↓zf0, ↓z100, ↓zff, ↓z1q, ↓z1q', ↓z12, ↓z12', ↓z2a, ↓z2a', ↓z1c, ↓z7, ↓z15, ↓z21, ↓ze, ↓z19, ↓z26, ↓z3, ↓zc, ↓zd, ↓zf, ↓z27, ↓z8, WO_some, WO_none, IfO_true, IfO_false, z10, za, z0, z1a, z17, z11, z28, z29, z1d, z1f, z23, z1b, ↓z73, ↓z74, ↓z6f, ↓z71, ↓z72, ↓z31, ↓z30, ↓z2f, ↓z2c, ↓z2e, ↓z78, ↓z76, ↓z75, ↓z79, ↓z77, if_ok, if_bl, if_and, if_or, getV, getB, opBin, opCmp, opIdx, opCut, opBi, tru, look, look_r, eqD, eqDs, Z.pure, pures, dep, deps, put_m, put_nx, new_m, new_nx, putIx, putOwn, insOf, lkN, putL, putN, thaw, getO, ixOf, LIM, B64, asI, Z.b2, z6d, z6e, z4a, z4b, z48, z49, z69, z6a, z32, z33, z34, z35, z36, z37, z42, z43, z3e, z3f, z40, z41, z38, z39, z3a, z3b, z3c, z3d, z44, z45, z6b, z6c, z52, z53, z56, z57, z58, z66, z67, z68, z5e, z5f, z60, z59, z5a, z64, z65, z50, z51, z4e, z4f, z54, z55, z61, z62, z63, z5b, z5c, z5d, z4c, z4d, z46, z47, z82, z83, z84, z85, z86, z87, z88, zbc, zbb, zba, t_prp_0_7, z8a, z89, z7a, z7b, z7c, z7d, z7e, z7f, z80, z81, z8b, z8c, z97, za2, zad, zb5, zb6, zb7, zb8, zb9, z8d, z8e, z8f, z90, z91, z92, z93, z94, z95, z96, z98, z99, z9a, z9b, z9c, z9d, z9e, z9f, za0, za1, za3, za4, za5, za6, za7, za8, za9, zaa, zab, zac, zae, zaf, zb0, zb1, zb2, zb3, zb4, hw, wdD, hm, CurO, i2, numD]
      exact hF
    | some j =>
      rw [k] at i2
      by_cases j0 : 0 ≤ j
      · by_cases j1 : j ≤ 65535
        · have hT : Tk M n ws a ((some w).bind fun w => (numW w).bind fun k => if 0 ≤ k ∧ k ≤ 65535 then some (D.int k) else none) (.int j) (M.put n (CurO ws ((a : Int) + 1))) := ⟨by simp [k, j0, j1], h.nx⟩
          unfold CurO at hT
          simp (config := {maxSteps := 4000000, dsimp := false, implicitDefEqProofs := false}) [↓zd2, ↓ze0, ↓zc2, ↓zcc, ↓zc0, ↓zd7, ↓zd9, ↓zc5, ↓zc6, ↓zbd, ↓zda, ↓zd0, ↓zc3, ↓zc4, ↓zd5, ↓zd6, ↓zdb, ↓zbe, ↓zce, ↓zdf, ↓zde, ↓zdd, ↓zdc, ↓ze1, ↓zd3, ↓zd4, ↓zc8, ↓zbf, ↓zc1, ↓zcf, ↓zca, ↓zcb, ↓zd1, ↓zcd, ↓zc9, ↓zd8, ↓zc7, ↓w_compL_nil, ↓w_compL_cons, ↓ze4, ↓ze3, ↓ze2, ↓ze5, ↓z106, ↓z103, ↓z105, ↓z101, ↓z107, ↓z104, ↓z102, ↓ze8, ↓zf5, ↓zfd, ↓zf6, ↓zfb, ↓ze6, ↓zfc, ↓zf4, ↓ze9, ↓ze7, ↓zf2, ↓zed, ↓zf3, ↓zec, ↓zf1, ↓zee, ↓zef, ↓zfe, ↓zf9, ↓zfa, ↓zf8, ↓zf7, ↓zea, ↓zeb, ↓zf0, ↓z100, ↓zff, ↓z1q, ↓z1q', ↓z12, ↓z12', ↓z2a, ↓z2a', ↓z1c, ↓z7, ↓z15, ↓z21, ↓ze, ↓z19, ↓z26, ↓z3, ↓zc, ↓zd, ↓zf, ↓z27, ↓z8, WO_some, WO_none, IfO_true, IfO_false, z10, za, z0, z1a, z17, z11, z28, z29, z1d, z1f, z23, z1b, ↓z73, ↓z74, ↓z6f, ↓z71, ↓z72, ↓z31, ↓z30, ↓z2f, ↓z2c, ↓z2e, ↓z78, ↓z76, ↓z75, ↓z79, ↓z77, if_ok, if_bl, if_and, if_or, getV, getB, opBin, opCmp, opIdx, opCut, opBi, tru, look, look_r, eqD, eqDs, Z.pure, pures, dep, deps, put_m, put_nx, new_m, new_nx, putIx, putOwn, insOf, lkN, putL, putN, thaw, getO, ixOf, LIM, B64, asI, Z.b2, z6d, z6e, z4a, z4b, z48, z49, z69, z6a, z32, z33, z34, z35, z36, z37, z42, z43, z3e, z3f, z40, z41, z38, z39, z3a, z3b, z3c, z3d, z44, z45, z6b, z6c, z52, z53, z56, z57, z58, z66, z67, z68, z5e, z5f, z60, z59, z5a, z64, z65, z50, z51, z4e, z4f, z54, z55, z61, z62, z63, z5b, z5c, z5d, z4c, z4d, z46, z47, z82, z83, z84, z85, z86, z87, z88, zbc, zbb, zba, t_prp_0_7, z8a, z89, z7a, z7b, z7c, z7d, z7e, z7f, z80, z81, z8b, z8c, z97, za2, zad, zb5, zb6, zb7, zb8, zb9, z8d, z8e, z8f, z90, z91, z92, z93, z94, z95, z96, z98, z99, z9a, z9b, z9c, z9d, z9e, z9f, za0, za1, za3, za4, za5, za6, za7, za8, za9, zaa, zab, zac, zae, zaf, zb0, zb1, zb2, zb3, zb4, hw, wdD, hm, CurO, i2, numD, j0, j1, aatO]
          exact hT
        · have hF : Tx a ((some w).bind fun w => (numW w).bind fun k => if 0 ≤ k ∧ k ≤ 65535 then some (D.int k) else none) 1 (.int a) M := ⟨by simp [k, j1], rfl, rfl⟩
          simp (config := {maxSteps := 4000000, dsimp := false, implicitDefEqProofs := false}) [↓zd2, ↓ze0, ↓zc2, ↓zcc, ↓zc0, ↓zd7, ↓zd9, ↓zc5, ↓zc6, ↓zbd, ↓zda, ↓zd0, ↓zc3, ↓zc4, ↓zd5, ↓zd6, ↓zdb, ↓zbe, ↓zce, ↓zdf, ↓zde, ↓zdd, ↓zdc, ↓ze1, ↓zd3, ↓zd4, ↓zc8, ↓zbf, ↓zc1, ↓zcf, ↓zca, ↓zcb, ↓zd1, ↓zcd, ↓zc9, ↓zd8, ↓zc7, ↓w_compL_nil, ↓w_compL_cons, ↓ze4, ↓ze3, ↓ze2, ↓ze5, ↓z106, ↓z103, ↓z105, ↓z101, ↓z107, ↓z104, ↓z102, ↓ze8, ↓zf5, ↓zfd, ↓zf6, ↓zfb, ↓ze6, ↓zfc, ↓zf4, ↓ze9, ↓ze7, ↓zf2, ↓zed, ↓zf3, ↓zec, ↓zf1, ↓zee, ↓zef, ↓zfe, ↓zf9, ↓zfa, ↓zf8, ↓zf7, ↓zea, ↓zeb, ↓zf0, ↓z100, ↓zff, ↓z1q, ↓z1q', ↓z12, ↓z12', ↓z2a, ↓z2a', ↓z1c, ↓z7, ↓z15, ↓z21, ↓ze, ↓z19, ↓z26, ↓z3, ↓zc, ↓zd, ↓zf, ↓z27, ↓z8, WO_some, WO_none, IfO_true, IfO_false, z10, za, z0, z1a, z17, z11, z28, z29, z1d, z1f, z23, z1b, ↓z73, ↓z74, ↓z6f, ↓z71, ↓z72, ↓z31, ↓z30, ↓z2f, ↓z2c, ↓z2e, ↓z78, ↓z76, ↓z75, ↓z79, ↓z77, if_ok, if_bl, if_and, if_or, getV, getB, opBin, opCmp, opIdx, opCut, opBi, tru, look, look_r, eqD, eqDs, Z.pure, pures, dep, deps, put_m, put_nx, new_m, new_nx, putIx, putOwn, insOf, lkN, putL, putN, thaw, getO, ixOf, LIM, B64, asI, Z.b2, z6d, z6e, z4a, z4b, z48, z49, z69, z6a, z32, z33, z34, z35, z36, z37, z42, z43, z3e, z3f, z40, z41, z38, z39, z3a, z3b, z3c, z3d, z44, z45, z6b, z6c, z52, z53, z56, z57, z58, z66, z67, z68, z5e, z5f, z60, z59, z5a, z64, z65, z50, z51, z4e, z4f, z54, z55, z61, z62, z63, z5b, z5c, z5d, z4c, z4d, z46, z47, z82, z83, z84, z85, z86, z87, z88, zbc, zbb, zba, t_prp_0_7, z8a, z89, z7a, z7b, z7c, z7d, z7e, z7f, z80, z81, z8b, z8c, z97, za2, zad, zb5, zb6, zb7, zb8, zb9, z8d, z8e, z8f, z90, z91, z92, z93, z94, z95, z96, z98, z99, z9a, z9b, z9c, z9d, z9e, z9f, za0, za1, za3, za4, za5, za6, za7, za8, za9, zaa, zab, zac, zae, zaf, zb0, zb1, zb2, zb3, zb4, hw, wdD, hm, CurO, i2, numD, j0, j1]
          exact hF
      · have hF : Tx a ((some w).bind fun w => (numW w).bind fun k => if 0 ≤ k ∧ k ≤ 65535 then some (D.int k) else none) 1 (.int a) M := ⟨by simp [k, j0], rfl, rfl⟩
        simp (config := {maxSteps := 4000000, dsimp := false, implicitDefEqProofs := false}) [↓zd2, ↓ze0, ↓zc2, ↓zcc, ↓zc0, ↓zd7, ↓zd9, ↓zc5, ↓zc6, ↓zbd, ↓zda, ↓zd0, ↓zc3, ↓zc4, ↓zd5, ↓zd6, ↓zdb, ↓zbe, ↓zce, ↓zdf, ↓zde, ↓zdd, ↓zdc, ↓ze1, ↓zd3, ↓zd4, ↓zc8, ↓zbf, ↓zc1, ↓zcf, ↓zca, ↓zcb, ↓zd1, ↓zcd, ↓zc9, ↓zd8, ↓zc7, ↓w_compL_nil, ↓w_compL_cons, ↓ze4, ↓ze3, ↓ze2, ↓ze5, ↓z106, ↓z103, ↓z105, ↓z101, ↓z107, ↓z104, ↓z102, ↓ze8, ↓zf5, ↓zfd, ↓zf6, ↓zfb, ↓ze6, ↓zfc, ↓zf4, ↓ze9, ↓ze7, ↓zf2, ↓zed, ↓zf3, ↓zec, ↓zf1, ↓zee, ↓zef, ↓zfe, ↓zf9, ↓zfa, ↓zf8, ↓zf7, ↓zea, ↓zeb, ↓zf0, ↓z100, ↓zff, ↓z1q, ↓z1q', ↓z12, ↓z12', ↓z2a, ↓z2a', ↓z1c, ↓z7, ↓z15, ↓z21, ↓ze, ↓z19, ↓z26, ↓z3, ↓zc, ↓zd, ↓zf, ↓z27, ↓z8, WO_some, WO_none, IfO_true, IfO_false, z10, za, z0, z1a, z17, z11, z28, z29, z1d, z1f, z23, z1b, ↓z73, ↓z74, ↓z6f, ↓z71, ↓z72, ↓z31, ↓z30, ↓z2f, ↓z2c, ↓z2e, ↓z78, ↓z76, ↓z75, ↓z79, ↓z77, if_ok, if_bl, if_and, if_or, getV, getB, opBin, opCmp, opIdx, opCut, opBi, tru, look, look_r, eqD, eqDs, Z.pure, pures, dep, deps, put_m, put_nx, new_m, new_nx, putIx, putOwn, insOf, lkN, putL, putN, thaw, getO, ixOf, LIM, B64, asI, Z.b2, z6d, z6e, z4a, z4b, z48, z49, z69, z6a, z32, z33, z34, z35, z36, z37, z42, z43, z3e, z3f, z40, z41, z38, z39, z3a, z3b, z3c, z3d, z44, z45, z6b, z6c, z52, z53, z56, z57, z58, z66, z67, z68, z5e, z5f, z60, z59, z5a, z64, z65, z50, z51, z4e, z4f, z54, z55, z61, z62, z63, z5b, z5c, z5d, z4c, z4d, z46, z47, z82, z83, z84, z85, z86, z87, z88, zbc, zbb, zba, t_prp_0_7, z8a, z89, z7a, z7b, z7c, z7d, z7e, z7f, z80, z81, z8b, z8c, z97, za2, zad, zb5, zb6, zb7, zb8, zb9, z8d, z8e, z8f, z90, z91, z92, z93, z94, z95, z96, z98, z99, z9a, z9b, z9c, z9d, z9e, z9f, za0, za1, za3, za4, za5, za6, za7, za8, za9, zaa, zab, zac, zae, zaf, zb0, zb1, zb2, zb3, zb4, hw, wdD, hm, CurO, i2, numD, j0]
        exact hF
end Q


set_option Elab.async false
set_option linter.all false
set_option autoImplicit false
set_option maxRecDepth 100000
set_option maxHeartbeats 4000000
namespace Q
open PySem L2 Z
theorem cursor_ok (q : Nat) (ws : List W) (hl : ws.length ≤ 1000) (hw : ∀ w ∈ ws, w.length ≤ 1000000) (M : Sto) : WR (fun v M' => ∃ n, v = .ref n ∧ Cu M' n ws 0) nX (mkObj tb.P (Cl (q + 1)) 0 [.lst (nms ws)] M) := by
  unfold mkObj
  simp (config := {maxSteps := 4000000, dsimp := false, implicitDefEqProofs := false}) [↓zd2, ↓ze0, ↓zc2, ↓zcc, ↓zc0, ↓zd7, ↓zd9, ↓zc5, ↓zc6, ↓zbd, ↓zda, ↓zd0, ↓zc3, ↓zc4, ↓zd5, ↓zd6, ↓zdb, ↓zbe, ↓zce, ↓zdf, ↓zde, ↓zdd, ↓zdc, ↓ze1, ↓zd3, ↓zd4, ↓zc8, ↓zbf, ↓zc1, ↓zcf, ↓zca, ↓zcb, ↓zd1, ↓zcd, ↓zc9, ↓zd8, ↓zc7, ↓w_compL_nil, ↓w_compL_cons, ↓ze4, ↓ze3, ↓ze2, ↓ze5, ↓z106, ↓z103, ↓z105, ↓z101, ↓z107, ↓z104, ↓z102, ↓ze8, ↓zf5, ↓zfd, ↓zf6, ↓zfb, ↓ze6, ↓zfc, ↓zf4, ↓ze9, ↓ze7, ↓zf2, ↓zed, ↓zf3, ↓zec, ↓zf1, ↓zee, ↓zef, ↓zfe, ↓zf9, ↓zfa, ↓zf8, ↓zf7, ↓zea, ↓zeb, ↓zf0, ↓z100, ↓zff, ↓z1q, ↓z1q', ↓z12, ↓z12', ↓z2a, ↓z2a', ↓z1c, ↓z7, ↓z15, ↓z21, ↓ze, ↓z19, ↓z26, ↓z3, ↓zc, ↓zd, ↓zf, ↓z27, ↓z8, WO_some, WO_none, IfO_true, IfO_false, z10, za, z0, z1a, z17, z11, z28, z29, z1d, z1f, z23, z1b, ↓z73, ↓z74, ↓z6f, ↓z71, ↓z72, ↓z31, ↓z30, ↓z2f, ↓z2c, ↓z2e, ↓z78, ↓z76, ↓z75, ↓z79, ↓z77, if_ok, if_bl, if_and, if_or, getV, getB, opBin, opCmp, opIdx, opCut, opBi, tru, look, look_r, eqD, eqDs, Z.pure, pures, dep, deps, put_m, put_nx, new_m, new_nx, putIx, putOwn, insOf, lkN, putL, putN, thaw, getO, ixOf, LIM, B64, asI, Z.b2, z6d, z6e, z4a, z4b, z48, z49, z69, z6a, z32, z33, z34, z35, z36, z37, z42, z43, z3e, z3f, z40, z41, z38, z39, z3a, z3b, z3c, z3d, z44, z45, z6b, z6c, z52, z53, z56, z57, z58, z66, z67, z68, z5e, z5f, z60, z59, z5a, z64, z65, z50, z51, z4e, z4f, z54, z55, z61, z62, z63, z5b, z5c, z5d, z4c, z4d, z46, z47, z82, z83, z84, z85, z86, z87, z88, zbc, zbb, zba, t_prp_0_7, z8a, z89, z7a, z7b, z7c, z7d, z7e, z7f, z80, z81, z8b, z8c, z97, za2, zad, zb5, zb6, zb7, zb8, zb9, z8d, z8e, z8f, z90, z91, z92, z93, z94, z95, z96, z98, z99, z9a, z9b, z9c, z9d, z9e, z9f, za0, za1, za3, za4, za5, za6, za7, za8, za9, zaa, zab, zac, zae, zaf, zb0, zb1, zb2, zb3, zb4, c_Cursor_init, b_Cursor_init]
  exact ⟨by simp [put_m, CurO], hl, hw⟩
/-- an edit -/
inductive Ed where
  | put (t : W)
  | back (k : Int)
  | drop (s n : W)
  | sw (n : W) (b : Bool)
  deriving DecidableEq
def edD : Ed → D
  | .put t => .tup [.str s_put, .str t]
  | .back k => .tup [.str s_back, .int k]
  | .drop s n => .tup [.str s_drop, .str s, .str n]
  | .sw n b => .tup [.str s_switch, .str n, .bl b]
/-- the words of a line -/
def wds (l : W) : List W := if l = [] then [] else splitAt1 32 l
def fin (n : Nat) (r : List W) (e : Ed) : Sum Nat Ed := if r = [] then .inr e else .inl n
def RE : List W → Sum Nat Ed
  | [] => .inl 0
  | k :: r => if k ∈ [s_put, s_drop, s_switch, s_back] then
      (if k = s_put then .inl 1
      else if k = s_back then (match r with
        | [] => .inl 1
        | x :: r2 => match ((numW x).bind fun j => if 0 ≤ j ∧ j ≤ 65535 then some j else none) with
          | none => .inl 1
          | some j => fin 2 r2 (.back j))
      else if k = s_drop then (match r with
        | [] => .inl 1
        | s :: r2 => if s ∈ sortW then (match r2 with
            | [] => .inl 2
            | x :: r3 => if isN x = true then fin 3 r3 (.drop s x) else .inl 2)
          else .inl 1)
      else (match r with
        | [] => .inl 1
        | x :: r2 => if isN x = true then (match r2 with
            | [] => .inl 2
            | y :: r3 => if y ∈ [s_on, s_off] then fin 3 r3 (.sw x (decide (y = s_on))) else .inl 2)
          else .inl 1))
    else .inl 0
def RL (l : W) : Sum Nat Ed := if l.take 4 = s_put_ then .inr (.put (l.drop 4)) else RE (wds l)
def RQ (r : Sum Nat Ed) (v : D) (M' : Sto) : Prop := ∃ e, r = .inr e ∧ v = edD e
def RX (r : Sum Nat Ed) (k : Nat) (d : D) (M' : Sto) : Prop := ∃ n : Nat, r = .inl n ∧ k = 1 ∧ d = .int n
theorem cut_4 (l : W) : cutZ l none (some 4) = l.take 4 := by
  unfold cutZ sIxZ
  simp
theorem cut_4' (l : W) : cutZ l (some 4) none = l.drop 4 := by
  unfold cutZ sIxZ
  simp
  by_cases h : 4 ≤ l.length
  · rw [Nat.min_eq_left h, List.take_of_length_le (by simp)]
  · rw [Nat.min_eq_right (by omega), List.drop_length, List.take_nil, List.drop_of_length_le (by omega)]
theorem spl_len (c : Nat) : ∀ l : W, (splitAt1 c l).length ≤ l.length + 1
  | [] => by simp [splitAt1]
  | x :: l => by
    have := spl_len c l
    rw [splitAt1]
    split
    · simp; omega
    · split
      · simp
      · rename_i y ys e; rw [e] at this; simp at this ⊢; omega
theorem spl_w (c : Nat) : ∀ l : W, ∀ w ∈ splitAt1 c l, w.length ≤ l.length
  | [], w, h => by simp [splitAt1] at h; subst h; simp
  | x :: l, w, h => by
    have := spl_w c l
    rw [splitAt1] at h
    split at h
    · rcases List.mem_cons.mp h with h | h
      · subst h; simp
      · have := this w h; simp; omega
    · split at h
      · simp at h; subst h; simp
      · rename_i y ys e
        rcases List.mem_cons.mp h with h | h
        · subst h; have := this y (by rw [e]; simp); simp; omega
        · have := this w (by rw [e]; simp [h]); simp; omega
theorem wds_len (l : W) : (wds l).length ≤ l.length + 1 := by
  unfold wds; split
  · simp
  · exact spl_len 32 l
theorem wds_w (l : W) : ∀ w ∈ wds l, w.length ≤ l.length := by
  unfold wds; split
  · intro w h; simp at h
  · exact spl_w 32 l
theorem split_ok (q : Nat) (l : W) (hl : l.length ≤ 1000000) (M : Sto) : callA tb.P (Cl (q + 1)) 0 [.str l] M = .ok (.lst (nms (wds l))) M := by
  apply WR.eqv
  rw [c_split_words, z8]
  unfold b_split_words
  by_cases h : l = []
  · subst h
    have e : wds [] = [] := rfl
    simp (config := {maxSteps := 4000000, dsimp := false, implicitDefEqProofs := false}) [↓zd2, ↓ze0, ↓zc2, ↓zcc, ↓zc0, ↓zd7, ↓zd9, ↓zc5, ↓zc6, ↓zbd, ↓zda, ↓zd0, ↓zc3, ↓zc4, ↓zd5, ↓zd6, ↓zdb, ↓zbe, ↓zce, ↓zdf, ↓zde, ↓zdd, ↓zdc, ↓ze1, ↓zd3, ↓zd4, ↓zc8, ↓zbf, ↓zc1, ↓zcf, ↓zca, ↓zcb, ↓zd1, ↓zcd, ↓zc9, ↓zd8, ↓zc7, ↓w_compL_nil, ↓w_compL_cons, ↓ze4, ↓ze3, ↓ze2, ↓ze5, ↓z106, ↓z103, ↓z105, ↓z101, ↓z107, ↓z104, ↓z102, ↓ze8, ↓zf5, ↓zfd, ↓zf6, ↓zfb, ↓ze6, ↓zfc, ↓zf4, ↓ze9, ↓ze7, ↓zf2, ↓zed, ↓zf3, ↓zec, ↓zf1, ↓zee, ↓zef, ↓zfe, ↓zf9, ↓zfa, ↓zf8, ↓zf7, ↓zea, ↓zeb, ↓zf0, ↓z100, ↓zff, ↓z1q, ↓z1q', ↓z12, ↓z12', ↓z2a, ↓z2a', ↓z1c, ↓z7, ↓z15, ↓z21, ↓ze, ↓z19, ↓z26, ↓z3, ↓zc, ↓zd, ↓zf, ↓z27, ↓z8, WO_some, WO_none, IfO_true, IfO_false, z10, za, z0, z1a, z17, z11, z28, z29, z1d, z1f, z23, z1b, ↓z73, ↓z74, ↓z6f, ↓z71, ↓z72, ↓z31, ↓z30, ↓z2f, ↓z2c, ↓z2e, ↓z78, ↓z76, ↓z75, ↓z79, ↓z77, if_ok, if_bl, if_and, if_or, getV, getB, opBin, opCmp, opIdx, opCut, opBi, tru, look, look_r, eqD, eqDs, Z.pure, pures, dep, deps, put_m, put_nx, new_m, new_nx, putIx, putOwn, insOf, lkN, putL, putN, thaw, getO, ixOf, LIM, B64, asI, Z.b2, z6d, z6e, z4a, z4b, z48, z49, z69, z6a, z32, z33, z34, z35, z36, z37, z42, z43, z3e, z3f, z40, z41, z38, z39, z3a, z3b, z3c, z3d, z44, z45, z6b, z6c, z52, z53, z56, z57, z58, z66, z67, z68, z5e, z5f, z60, z59, z5a, z64, z65, z50, z51, z4e, z4f, z54, z55, z61, z62, z63, z5b, z5c, z5d, z4c, z4d, z46, z47, z82, z83, z84, z85, z86, z87, z88, zbc, zbb, zba, t_prp_0_7, z8a, z89, z7a, z7b, z7c, z7d, z7e, z7f, z80, z81, z8b, z8c, z97, za2, zad, zb5, zb6, zb7, zb8, zb9, z8d, z8e, z8f, z90, z91, z92, z93, z94, z95, z96, z98, z99, z9a, z9b, z9c, z9d, z9e, z9f, za0, za1, za3, za4, za5, za6, za7, za8, za9, zaa, zab, zac, zae, zaf, zb0, zb1, zb2, zb3, zb4, s_, e, nms]
  · have e : wds l = splitAt1 32 l := by unfold wds; rw [if_neg h]
    have h1 : l.length + 2 ≤ 16777216 := by omega
    have h2 : l.length ≤ 16777214 := by omega
    simp (config := {maxSteps := 4000000, dsimp := false, implicitDefEqProofs := false}) [↓zd2, ↓ze0, ↓zc2, ↓zcc, ↓zc0, ↓zd7, ↓zd9, ↓zc5, ↓zc6, ↓zbd, ↓zda, ↓zd0, ↓zc3, ↓zc4, ↓zd5, ↓zd6, ↓zdb, ↓zbe, ↓zce, ↓zdf, ↓zde, ↓zdd, ↓zdc, ↓ze1, ↓zd3, ↓zd4, ↓zc8, ↓zbf, ↓zc1, ↓zcf, ↓zca, ↓zcb, ↓zd1, ↓zcd, ↓zc9, ↓zd8, ↓zc7, ↓w_compL_nil, ↓w_compL_cons, ↓ze4, ↓ze3, ↓ze2, ↓ze5, ↓z106, ↓z103, ↓z105, ↓z101, ↓z107, ↓z104, ↓z102, ↓ze8, ↓zf5, ↓zfd, ↓zf6, ↓zfb, ↓ze6, ↓zfc, ↓zf4, ↓ze9, ↓ze7, ↓zf2, ↓zed, ↓zf3, ↓zec, ↓zf1, ↓zee, ↓zef, ↓zfe, ↓zf9, ↓zfa, ↓zf8, ↓zf7, ↓zea, ↓zeb, ↓zf0, ↓z100, ↓zff, ↓z1q, ↓z1q', ↓z12, ↓z12', ↓z2a, ↓z2a', ↓z1c, ↓z7, ↓z15, ↓z21, ↓ze, ↓z19, ↓z26, ↓z3, ↓zc, ↓zd, ↓zf, ↓z27, ↓z8, WO_some, WO_none, IfO_true, IfO_false, z10, za, z0, z1a, z17, z11, z28, z29, z1d, z1f, z23, z1b, ↓z73, ↓z74, ↓z6f, ↓z71, ↓z72, ↓z31, ↓z30, ↓z2f, ↓z2c, ↓z2e, ↓z78, ↓z76, ↓z75, ↓z79, ↓z77, if_ok, if_bl, if_and, if_or, getV, getB, opBin, opCmp, opIdx, opCut, opBi, tru, look, look_r, eqD, eqDs, Z.pure, pures, dep, deps, put_m, put_nx, new_m, new_nx, putIx, putOwn, insOf, lkN, putL, putN, thaw, getO, ixOf, LIM, B64, asI, Z.b2, z6d, z6e, z4a, z4b, z48, z49, z69, z6a, z32, z33, z34, z35, z36, z37, z42, z43, z3e, z3f, z40, z41, z38, z39, z3a, z3b, z3c, z3d, z44, z45, z6b, z6c, z52, z53, z56, z57, z58, z66, z67, z68, z5e, z5f, z60, z59, z5a, z64, z65, z50, z51, z4e, z4f, z54, z55, z61, z62, z63, z5b, z5c, z5d, z4c, z4d, z46, z47, z82, z83, z84, z85, z86, z87, z88, zbc, zbb, zba, t_prp_0_7, z8a, z89, z7a, z7b, z7c, z7d, z7e, z7f, z80, z81, z8b, z8c, z97, za2, zad, zb5, zb6, zb7, zb8, zb9, z8d, z8e, z8f, z90, z91, z92, z93, z94, z95, z96, z98, z99, z9a, z9b, z9c, z9d, z9e, z9f, za0, za1, za3, za4, za5, za6, za7, za8, za9, zaa, zab, zac, zae, zaf, zb0, zb1, zb2, zb3, zb4, s_, h, e, s__, h1, h2, nms, opBm]
def Bk : W → List W → Sum Nat Ed := fun x r2 => match ((numW x).bind fun j => if 0 ≤ j ∧ j ≤ 65535 then some j else none) with
          | none => .inl 1
          | some j => fin 2 r2 (.back j)
theorem sd1 : (s_drop = s_put) = False := by decide
theorem sd2 : (s_drop = s_back) = False := by decide
theorem ss1 : (s_switch = s_put) = False := by decide
theorem ss2 : (s_switch = s_back) = False := by decide
theorem ss3 : (s_switch = s_drop) = False := by decide
theorem sb1 : (s_back = s_put) = False := by decide
theorem nms4 : nms [s_put, s_drop, s_switch, s_back] = [.str s_put, .str s_drop, .str s_switch, .str s_back] := rfl
theorem nms2 : nms [s_on, s_off] = [.str s_on, .str s_off] := rfl
section
variable {M : Sto} {n : Nat} {ws : List W} {a : Nat}
theorem tn_y (q : Nat) (h : Cu M n ws a) (L : List W) (w : W) (e : ws[a]? = some w) (k : w ∈ L) : WR (fun v M' => v = .str w ∧ Cu M' n ws (a + 1)) nX (callA tb.P (Cl (q + 2)) 7 [.ref n, .tup (nms L)] M) :=
  WR.mono (take_name_ok q h L) (fun v M' ⟨h1, h2⟩ => by rw [e] at h1; simp [k] at h1; exact ⟨h1.symm, h2⟩) (fun k' d M' ⟨h1, _⟩ => by rw [e] at h1; simp [k] at h1)
theorem tn_n (q : Nat) (h : Cu M n ws a) (L : List W) (e : ∀ w, ws[a]? = some w → ¬ w ∈ L) : WR (fun _ _ => False) (fun k d _ => k = 1 ∧ d = .int a) (callA tb.P (Cl (q + 2)) 7 [.ref n, .tup (nms L)] M) :=
  WR.mono (take_name_ok q h L) (fun v M' ⟨h1, h2⟩ => by
    cases hw : ws[a]? with
    | none => rw [hw] at h1; cases h1
    | some w => rw [hw] at h1; simp [e w hw] at h1) (fun k' d M' ⟨_, h2, h3⟩ => ⟨h2, h3⟩)
theorem nn_y (q : Nat) (h : Cu M n ws a) (w : W) (e : ws[a]? = some w) (k : isN w = true) : WR (fun v M' => v = .str w ∧ Cu M' n ws (a + 1)) nX (callA tb.P (Cl (q + 2)) 8 [.ref n, .tup []] M) :=
  WR.mono (take_new_ok q h) (fun v M' ⟨h1, h2⟩ => by rw [e] at h1; simp [k] at h1; exact ⟨h1.symm, h2⟩) (fun k' d M' ⟨h1, _⟩ => by rw [e] at h1; simp [k] at h1)
theorem nn_n (q : Nat) (h : Cu M n ws a) (e : ∀ w, ws[a]? = some w → ¬ isN w = true) : WR (fun _ _ => False) (fun k d _ => k = 1 ∧ d = .int a) (callA tb.P (Cl (q + 2)) 8 [.ref n, .tup []] M) :=
  WR.mono (take_new_ok q h) (fun v M' ⟨h1, h2⟩ => by
    cases hw : ws[a]? with
    | none => rw [hw] at h1; cases h1
    | some w => rw [hw] at h1; simp [e w hw] at h1) (fun k' d M' ⟨_, h2, h3⟩ => ⟨h2, h3⟩)
def nuW (w : W) : Option Int := (numW w).bind fun j => if 0 ≤ j ∧ j ≤ 65535 then some j else none
theorem nuW_eq (w : W) : ((numW w).bind fun k => if 0 ≤ k ∧ k ≤ 65535 then some (D.int k) else none) = (nuW w).map D.int := by
  unfold nuW
  cases numW w with
  | none => rfl
  | some k => by_cases h : 0 ≤ k ∧ k ≤ 65535 <;> simp [h]
theorem nu_y (q : Nat) (h : Cu M n ws a) (w : W) (j : Int) (e : ws[a]? = some w) (k : nuW w = some j) : WR (fun v M' => v = .int j ∧ Cu M' n ws (a + 1)) nX (callA tb.P (Cl (q + 2)) 6 [.ref n, .int 0, .int 65535] M) :=
  WR.mono (take_num_ok q h) (fun v M' ⟨h1, h2⟩ => by rw [e] at h1; simp only [Option.bind_some] at h1; rw [nuW_eq, k] at h1; simp at h1; exact ⟨h1.symm, h2⟩) (fun k' d M' ⟨h1, _⟩ => by rw [e] at h1; simp only [Option.bind_some] at h1; rw [nuW_eq, k] at h1; simp at h1)
theorem nu_n (q : Nat) (h : Cu M n ws a) (e : ∀ w, ws[a]? = some w → nuW w = none) : WR (fun _ _ => False) (fun k d _ => k = 1 ∧ d = .int a) (callA tb.P (Cl (q + 2)) 6 [.ref n, .int 0, .int 65535] M) :=
  WR.mono (take_num_ok q h) (fun v M' ⟨h1, h2⟩ => by
    cases hw : ws[a]? with
    | none => rw [hw] at h1; cases h1
    | some w => rw [hw] at h1; simp only [Option.bind_some] at h1; rw [nuW_eq, e w hw] at h1; simp at h1) (fun k' d M' ⟨_, h2, h3⟩ => ⟨h2, h3⟩)
end
theorem read_ok (q : Nat) (l : W) (hl : l.length ≤ 900) (M : Sto) : WR (RQ (RL l)) (RX (RL l)) (callA tb.P (Cl (q + 4)) 10 [.str l] M) := by
  rw [c_read_edit, z8]
  unfold b_read_edit
  have hl2 : l.length ≤ 16777216 := by omega
  by_cases hp : l.take 4 = s_put_
  · have hR : RL l = .inr (.put (l.drop 4)) := by unfold RL; rw [if_pos hp]
    have hT : ∀ M, RQ (RL l) (.tup [.str s_put, .str (l.drop 4)]) M := fun M => ⟨_, hR, rfl⟩
    simp (config := {maxSteps := 4000000, dsimp := false, implicitDefEqProofs := false}) [↓zd2, ↓ze0, ↓zc2, ↓zcc, ↓zc0, ↓zd7, ↓zd9, ↓zc5, ↓zc6, ↓zbd, ↓zda, ↓zd0, ↓zc3, ↓zc4, ↓zd5, ↓zd6, ↓zdb, ↓zbe, ↓zce, ↓zdf, ↓zde, ↓zdd, ↓zdc, ↓ze1, ↓zd3, ↓zd4, ↓zc8, ↓zbf, ↓zc1, ↓zcf, ↓zca, ↓zcb, ↓zd1, ↓zcd, ↓zc9, ↓zd8, ↓zc7, ↓w_compL_nil, ↓w_compL_cons, ↓ze4, ↓ze3, ↓ze2, ↓ze5, ↓z106, ↓z103, ↓z105, ↓z101, ↓z107, ↓z104, ↓z102, ↓ze8, ↓zf5, ↓zfd, ↓zf6, ↓zfb, ↓ze6, ↓zfc, ↓zf4, ↓ze9, ↓ze7, ↓zf2, ↓zed, ↓zf3, ↓zec, ↓zf1, ↓zee, ↓zef, ↓zfe, ↓zf9, ↓zfa, ↓zf8, ↓zf7, ↓zea, ↓zeb, ↓zf0, ↓z100, ↓zff, ↓z1q, ↓z1q', ↓z12, ↓z12', ↓z2a, ↓z2a', ↓z1c, ↓z7, ↓z15, ↓z21, ↓ze, ↓z19, ↓z26, ↓z3, ↓zc, ↓zd, ↓zf, ↓z27, ↓z8, WO_some, WO_none, IfO_true, IfO_false, z10, za, z0, z1a, z17, z11, z28, z29, z1d, z1f, z23, z1b, ↓z73, ↓z74, ↓z6f, ↓z71, ↓z72, ↓z31, ↓z30, ↓z2f, ↓z2c, ↓z2e, ↓z78, ↓z76, ↓z75, ↓z79, ↓z77, if_ok, if_bl, if_and, if_or, getV, getB, opBin, opCmp, opIdx, opCut, opBi, tru, look, look_r, eqD, eqDs, Z.pure, pures, dep, deps, put_m, put_nx, new_m, new_nx, putIx, putOwn, insOf, lkN, putL, putN, thaw, getO, ixOf, LIM, B64, asI, Z.b2, z6d, z6e, z4a, z4b, z48, z49, z69, z6a, z32, z33, z34, z35, z36, z37, z42, z43, z3e, z3f, z40, z41, z38, z39, z3a, z3b, z3c, z3d, z44, z45, z6b, z6c, z52, z53, z56, z57, z58, z66, z67, z68, z5e, z5f, z60, z59, z5a, z64, z65, z50, z51, z4e, z4f, z54, z55, z61, z62, z63, z5b, z5c, z5d, z4c, z4d, z46, z47, z82, z83, z84, z85, z86, z87, z88, zbc, zbb, zba, t_prp_0_7, z8a, z89, z7a, z7b, z7c, z7d, z7e, z7f, z80, z81, z8b, z8c, z97, za2, zad, zb5, zb6, zb7, zb8, zb9, z8d, z8e, z8f, z90, z91, z92, z93, z94, z95, z96, z98, z99, z9a, z9b, z9c, z9d, z9e, z9f, za0, za1, za3, za4, za5, za6, za7, za8, za9, zaa, zab, zac, zae, zaf, zb0, zb1, zb2, zb3, zb4, cut_4, cut_4', hp, hl2, hT]
  have hR : RL l = RE (wds l) := by unfold RL; rw [if_neg hp]
  rw [hR]
  have hsp := fun M => split_ok (q + 2) l (by omega) M
  simp (config := {maxSteps := 4000000, dsimp := false, implicitDefEqProofs := false}) [↓zd2, ↓ze0, ↓zc2, ↓zcc, ↓zc0, ↓zd7, ↓zd9, ↓zc5, ↓zc6, ↓zbd, ↓zda, ↓zd0, ↓zc3, ↓zc4, ↓zd5, ↓zd6, ↓zdb, ↓zbe, ↓zce, ↓zdf, ↓zde, ↓zdd, ↓zdc, ↓ze1, ↓zd3, ↓zd4, ↓zc8, ↓zbf, ↓zc1, ↓zcf, ↓zca, ↓zcb, ↓zd1, ↓zcd, ↓zc9, ↓zd8, ↓zc7, ↓w_compL_nil, ↓w_compL_cons, ↓ze4, ↓ze3, ↓ze2, ↓ze5, ↓z106, ↓z103, ↓z105, ↓z101, ↓z107, ↓z104, ↓z102, ↓ze8, ↓zf5, ↓zfd, ↓zf6, ↓zfb, ↓ze6, ↓zfc, ↓zf4, ↓ze9, ↓ze7, ↓zf2, ↓zed, ↓zf3, ↓zec, ↓zf1, ↓zee, ↓zef, ↓zfe, ↓zf9, ↓zfa, ↓zf8, ↓zf7, ↓zea, ↓zeb, ↓zf0, ↓z100, ↓zff, ↓z1q, ↓z1q', ↓z12, ↓z12', ↓z2a, ↓z2a', ↓z1c, ↓z7, ↓z15, ↓z21, ↓ze, ↓z19, ↓z26, ↓z3, ↓zc, ↓zd, ↓zf, ↓z27, ↓z8, WO_some, WO_none, IfO_true, IfO_false, z10, za, z0, z1a, z17, z11, z28, z29, z1d, z1f, z23, z1b, ↓z73, ↓z74, ↓z6f, ↓z71, ↓z72, ↓z31, ↓z30, ↓z2f, ↓z2c, ↓z2e, ↓z78, ↓z76, ↓z75, ↓z79, ↓z77, if_ok, if_bl, if_and, if_or, getV, getB, opBin, opCmp, opIdx, opCut, opBi, tru, look, look_r, eqD, eqDs, Z.pure, pures, dep, deps, put_m, put_nx, new_m, new_nx, putIx, putOwn, insOf, lkN, putL, putN, thaw, getO, ixOf, LIM, B64, asI, Z.b2, z6d, z6e, z4a, z4b, z48, z49, z69, z6a, z32, z33, z34, z35, z36, z37, z42, z43, z3e, z3f, z40, z41, z38, z39, z3a, z3b, z3c, z3d, z44, z45, z6b, z6c, z52, z53, z56, z57, z58, z66, z67, z68, z5e, z5f, z60, z59, z5a, z64, z65, z50, z51, z4e, z4f, z54, z55, z61, z62, z63, z5b, z5c, z5d, z4c, z4d, z46, z47, z82, z83, z84, z85, z86, z87, z88, zbc, zbb, zba, t_prp_0_7, z8a, z89, z7a, z7b, z7c, z7d, z7e, z7f, z80, z81, z8b, z8c, z97, za2, zad, zb5, zb6, zb7, zb8, zb9, z8d, z8e, z8f, z90, z91, z92, z93, z94, z95, z96, z98, z99, z9a, z9b, z9c, z9d, z9e, z9f, za0, za1, za3, za4, za5, za6, za7, za8, za9, zaa, zab, zac, zae, zaf, zb0, zb1, zb2, zb3, zb4, cut_4, hp, hl2, hsp]
  clear hsp
  have hwl : (wds l).length ≤ 1000 := by have := wds_len l; omega
  have hww : ∀ w ∈ wds l, w.length ≤ 1000000 := fun w h => by have := wds_w l w h; omega
  generalize wds l = ws at *
  refine (cursor_ok (q + 2) ws hwl hww M).go ?_
  rintro _ M1 ⟨n, rfl, C0⟩
  have hm0 := C0.h
  simp (config := {maxSteps := 4000000, dsimp := false, implicitDefEqProofs := false}) [↓zd2, ↓ze0, ↓zc2, ↓zcc, ↓zc0, ↓zd7, ↓zd9, ↓zc5, ↓zc6, ↓zbd, ↓zda, ↓zd0, ↓zc3, ↓zc4, ↓zd5, ↓zd6, ↓zdb, ↓zbe, ↓zce, ↓zdf, ↓zde, ↓zdd, ↓zdc, ↓ze1, ↓zd3, ↓zd4, ↓zc8, ↓zbf, ↓zc1, ↓zcf, ↓zca, ↓zcb, ↓zd1, ↓zcd, ↓zc9, ↓zd8, ↓zc7, ↓w_compL_nil, ↓w_compL_cons, ↓ze4, ↓ze3, ↓ze2, ↓ze5, ↓z106, ↓z103, ↓z105, ↓z101, ↓z107, ↓z104, ↓z102, ↓ze8, ↓zf5, ↓zfd, ↓zf6, ↓zfb, ↓ze6, ↓zfc, ↓zf4, ↓ze9, ↓ze7, ↓zf2, ↓zed, ↓zf3, ↓zec, ↓zf1, ↓zee, ↓zef, ↓zfe, ↓zf9, ↓zfa, ↓zf8, ↓zf7, ↓zea, ↓zeb, ↓zf0, ↓z100, ↓zff, ↓z1q, ↓z1q', ↓z12, ↓z12', ↓z2a, ↓z2a', ↓z1c, ↓z7, ↓z15, ↓z21, ↓ze, ↓z19, ↓z26, ↓z3, ↓zc, ↓zd, ↓zf, ↓z27, ↓z8, WO_some, WO_none, IfO_true, IfO_false, z10, za, z0, z1a, z17, z11, z28, z29, z1d, z1f, z23, z1b, ↓z73, ↓z74, ↓z6f, ↓z71, ↓z72, ↓z31, ↓z30, ↓z2f, ↓z2c, ↓z2e, ↓z78, ↓z76, ↓z75, ↓z79, ↓z77, if_ok, if_bl, if_and, if_or, getV, getB, opBin, opCmp, opIdx, opCut, opBi, tru, look, look_r, eqD, eqDs, Z.pure, pures, dep, deps, put_m, put_nx, new_m, new_nx, putIx, putOwn, insOf, lkN, putL, putN, thaw, getO, ixOf, LIM, B64, asI, Z.b2, z6d, z6e, z4a, z4b, z48, z49, z69, z6a, z32, z33, z34, z35, z36, z37, z42, z43, z3e, z3f, z40, z41, z38, z39, z3a, z3b, z3c, z3d, z44, z45, z6b, z6c, z52, z53, z56, z57, z58, z66, z67, z68, z5e, z5f, z60, z59, z5a, z64, z65, z50, z51, z4e, z4f, z54, z55, z61, z62, z63, z5b, z5c, z5d, z4c, z4d, z46, z47, z82, z83, z84, z85, z86, z87, z88, zbc, zbb, zba, t_prp_0_7, z8a, z89, z7a, z7b, z7c, z7d, z7e, z7f, z80, z81, z8b, z8c, z97, za2, zad, zb5, zb6, zb7, zb8, zb9, z8d, z8e, z8f, z90, z91, z92, z93, z94, z95, z96, z98, z99, z9a, z9b, z9c, z9d, z9e, z9f, za0, za1, za3, za4, za5, za6, za7, za8, za9, zaa, zab, zac, zae, zaf, zb0, zb1, zb2, zb3, zb4, hm0, CurO]
  cases ws with
  | nil =>
    refine WR.mono (tn_n (q + 1) C0 [s_put, s_drop, s_switch, s_back] (fun w h => by simp at h)) (fun _ _ h => h.elim) ?_
    rintro _ _ M9 ⟨rfl, rfl⟩
    simp (config := {maxSteps := 4000000, dsimp := false, implicitDefEqProofs := false}) [↓zd2, ↓ze0, ↓zc2, ↓zcc, ↓zc0, ↓zd7, ↓zd9, ↓zc5, ↓zc6, ↓zbd, ↓zda, ↓zd0, ↓zc3, ↓zc4, ↓zd5, ↓zd6, ↓zdb, ↓zbe, ↓zce, ↓zdf, ↓zde, ↓zdd, ↓zdc, ↓ze1, ↓zd3, ↓zd4, ↓zc8, ↓zbf, ↓zc1, ↓zcf, ↓zca, ↓zcb, ↓zd1, ↓zcd, ↓zc9, ↓zd8, ↓zc7, ↓w_compL_nil, ↓w_compL_cons, ↓ze4, ↓ze3, ↓ze2, ↓ze5, ↓z106, ↓z103, ↓z105, ↓z101, ↓z107, ↓z104, ↓z102, ↓ze8, ↓zf5, ↓zfd, ↓zf6, ↓zfb, ↓ze6, ↓zfc, ↓zf4, ↓ze9, ↓ze7, ↓zf2, ↓zed, ↓zf3, ↓zec, ↓zf1, ↓zee, ↓zef, ↓zfe, ↓zf9, ↓zfa, ↓zf8, ↓zf7, ↓zea, ↓zeb, ↓zf0, ↓z100, ↓zff, ↓z1q, ↓z1q', ↓z12, ↓z12', ↓z2a, ↓z2a', ↓z1c, ↓z7, ↓z15, ↓z21, ↓ze, ↓z19, ↓z26, ↓z3, ↓zc, ↓zd, ↓zf, ↓z27, ↓z8, WO_some, WO_none, IfO_true, IfO_false, z10, za, z0, z1a, z17, z11, z28, z29, z1d, z1f, z23, z1b, ↓z73, ↓z74, ↓z6f, ↓z71, ↓z72, ↓z31, ↓z30, ↓z2f, ↓z2c, ↓z2e, ↓z78, ↓z76, ↓z75, ↓z79, ↓z77, if_ok, if_bl, if_and, if_or, getV, getB, opBin, opCmp, opIdx, opCut, opBi, tru, look, look_r, eqD, eqDs, Z.pure, pures, dep, deps, put_m, put_nx, new_m, new_nx, putIx, putOwn, insOf, lkN, putL, putN, thaw, getO, ixOf, LIM, B64, asI, Z.b2, z6d, z6e, z4a, z4b, z48, z49, z69, z6a, z32, z33, z34, z35, z36, z37, z42, z43, z3e, z3f, z40, z41, z38, z39, z3a, z3b, z3c, z3d, z44, z45, z6b, z6c, z52, z53, z56, z57, z58, z66, z67, z68, z5e, z5f, z60, z59, z5a, z64, z65, z50, z51, z4e, z4f, z54, z55, z61, z62, z63, z5b, z5c, z5d, z4c, z4d, z46, z47, z82, z83, z84, z85, z86, z87, z88, zbc, zbb, zba, t_prp_0_7, z8a, z89, z7a, z7b, z7c, z7d, z7e, z7f, z80, z81, z8b, z8c, z97, za2, zad, zb5, zb6, zb7, zb8, zb9, z8d, z8e, z8f, z90, z91, z92, z93, z94, z95, z96, z98, z99, z9a, z9b, z9c, z9d, z9e, z9f, za0, za1, za3, za4, za5, za6, za7, za8, za9, zaa, zab, zac, zae, zaf, zb0, zb1, zb2, zb3, zb4]
    exact ⟨0, rfl, rfl, rfl⟩
  | cons k r =>
    by_cases hk : k ∈ [s_put, s_drop, s_switch, s_back]
    case neg =>
      refine WR.mono (tn_n (q + 1) C0 [s_put, s_drop, s_switch, s_back] (fun w h => by simp at h; subst h; exact hk)) (fun _ _ h => h.elim) ?_
      rintro _ _ M9 ⟨rfl, rfl⟩
      simp (config := {maxSteps := 4000000, dsimp := false, implicitDefEqProofs := false}) [↓zd2, ↓ze0, ↓zc2, ↓zcc, ↓zc0, ↓zd7, ↓zd9, ↓zc5, ↓zc6, ↓zbd, ↓zda, ↓zd0, ↓zc3, ↓zc4, ↓zd5, ↓zd6, ↓zdb, ↓zbe, ↓zce, ↓zdf, ↓zde, ↓zdd, ↓zdc, ↓ze1, ↓zd3, ↓zd4, ↓zc8, ↓zbf, ↓zc1, ↓zcf, ↓zca, ↓zcb, ↓zd1, ↓zcd, ↓zc9, ↓zd8, ↓zc7, ↓w_compL_nil, ↓w_compL_cons, ↓ze4, ↓ze3, ↓ze2, ↓ze5, ↓z106, ↓z103, ↓z105, ↓z101, ↓z107, ↓z104, ↓z102, ↓ze8, ↓zf5, ↓zfd, ↓zf6, ↓zfb, ↓ze6, ↓zfc, ↓zf4, ↓ze9, ↓ze7, ↓zf2, ↓zed, ↓zf3, ↓zec, ↓zf1, ↓zee, ↓zef, ↓zfe, ↓zf9, ↓zfa, ↓zf8, ↓zf7, ↓zea, ↓zeb, ↓zf0, ↓z100, ↓zff, ↓z1q, ↓z1q', ↓z12, ↓z12', ↓z2a, ↓z2a', ↓z1c, ↓z7, ↓z15, ↓z21, ↓ze, ↓z19, ↓z26, ↓z3, ↓zc, ↓zd, ↓zf, ↓z27, ↓z8, WO_some, WO_none, IfO_true, IfO_false, z10, za, z0, z1a, z17, z11, z28, z29, z1d, z1f, z23, z1b, ↓z73, ↓z74, ↓z6f, ↓z71, ↓z72, ↓z31, ↓z30, ↓z2f, ↓z2c, ↓z2e, ↓z78, ↓z76, ↓z75, ↓z79, ↓z77, if_ok, if_bl, if_and, if_or, getV, getB, opBin, opCmp, opIdx, opCut, opBi, tru, look, look_r, eqD, eqDs, Z.pure, pures, dep, deps, put_m, put_nx, new_m, new_nx, putIx, putOwn, insOf, lkN, putL, putN, thaw, getO, ixOf, LIM, B64, asI, Z.b2, z6d, z6e, z4a, z4b, z48, z49, z69, z6a, z32, z33, z34, z35, z36, z37, z42, z43, z3e, z3f, z40, z41, z38, z39, z3a, z3b, z3c, z3d, z44, z45, z6b, z6c, z52, z53, z56, z57, z58, z66, z67, z68, z5e, z5f, z60, z59, z5a, z64, z65, z50, z51, z4e, z4f, z54, z55, z61, z62, z63, z5b, z5c, z5d, z4c, z4d, z46, z47, z82, z83, z84, z85, z86, z87, z88, zbc, zbb, zba, t_prp_0_7, z8a, z89, z7a, z7b, z7c, z7d, z7e, z7f, z80, z81, z8b, z8c, z97, za2, zad, zb5, zb6, zb7, zb8, zb9, z8d, z8e, z8f, z90, z91, z92, z93, z94, z95, z96, z98, z99, z9a, z9b, z9c, z9d, z9e, z9f, za0, za1, za3, za4, za5, za6, za7, za8, za9, zaa, zab, zac, zae, zaf, zb0, zb1, zb2, zb3, zb4]
      exact ⟨0, by simp only [RE, if_neg hk], rfl, rfl⟩
    refine (tn_y (q + 1) C0 [s_put, s_drop, s_switch, s_back] k rfl hk).go ?_
    rintro _ M2 ⟨rfl, C1⟩
    have hm1 := C1.h
    simp only [List.mem_cons, List.not_mem_nil, or_false] at hk
    rcases hk with hk | hk | hk | hk
    · subst hk
      simp (config := {maxSteps := 4000000, dsimp := false, implicitDefEqProofs := false}) [↓zd2, ↓ze0, ↓zc2, ↓zcc, ↓zc0, ↓zd7, ↓zd9, ↓zc5, ↓zc6, ↓zbd, ↓zda, ↓zd0, ↓zc3, ↓zc4, ↓zd5, ↓zd6, ↓zdb, ↓zbe, ↓zce, ↓zdf, ↓zde, ↓zdd, ↓zdc, ↓ze1, ↓zd3, ↓zd4, ↓zc8, ↓zbf, ↓zc1, ↓zcf, ↓zca, ↓zcb, ↓zd1, ↓zcd, ↓zc9, ↓zd8, ↓zc7, ↓w_compL_nil, ↓w_compL_cons, ↓ze4, ↓ze3, ↓ze2, ↓ze5, ↓z106, ↓z103, ↓z105, ↓z101, ↓z107, ↓z104, ↓z102, ↓ze8, ↓zf5, ↓zfd, ↓zf6, ↓zfb, ↓ze6, ↓zfc, ↓zf4, ↓ze9, ↓ze7, ↓zf2, ↓zed, ↓zf3, ↓zec, ↓zf1, ↓zee, ↓zef, ↓zfe, ↓zf9, ↓zfa, ↓zf8, ↓zf7, ↓zea, ↓zeb, ↓zf0, ↓z100, ↓zff, ↓z1q, ↓z1q', ↓z12, ↓z12', ↓z2a, ↓z2a', ↓z1c, ↓z7, ↓z15, ↓z21, ↓ze, ↓z19, ↓z26, ↓z3, ↓zc, ↓zd, ↓zf, ↓z27, ↓z8, WO_some, WO_none, IfO_true, IfO_false, z10, za, z0, z1a, z17, z11, z28, z29, z1d, z1f, z23, z1b, ↓z73, ↓z74, ↓z6f, ↓z71, ↓z72, ↓z31, ↓z30, ↓z2f, ↓z2c, ↓z2e, ↓z78, ↓z76, ↓z75, ↓z79, ↓z77, if_ok, if_bl, if_and, if_or, getV, getB, opBin, opCmp, opIdx, opCut, opBi, tru, look, look_r, eqD, eqDs, Z.pure, pures, dep, deps, put_m, put_nx, new_m, new_nx, putIx, putOwn, insOf, lkN, putL, putN, thaw, getO, ixOf, LIM, B64, asI, Z.b2, z6d, z6e, z4a, z4b, z48, z49, z69, z6a, z32, z33, z34, z35, z36, z37, z42, z43, z3e, z3f, z40, z41, z38, z39, z3a, z3b, z3c, z3d, z44, z45, z6b, z6c, z52, z53, z56, z57, z58, z66, z67, z68, z5e, z5f, z60, z59, z5a, z64, z65, z50, z51, z4e, z4f, z54, z55, z61, z62, z63, z5b, z5c, z5d, z4c, z4d, z46, z47, z82, z83, z84, z85, z86, z87, z88, zbc, zbb, zba, t_prp_0_7, z8a, z89, z7a, z7b, z7c, z7d, z7e, z7f, z80, z81, z8b, z8c, z97, za2, zad, zb5, zb6, zb7, zb8, zb9, z8d, z8e, z8f, z90, z91, z92, z93, z94, z95, z96, z98, z99, z9a, z9b, z9c, z9d, z9e, z9f, za0, za1, za3, za4, za5, za6, za7, za8, za9, zaa, zab, zac, zae, zaf, zb0, zb1, zb2, zb3, zb4]
      exact ⟨1, rfl, rfl, rfl⟩
    · subst hk
      simp (config := {maxSteps := 4000000, dsimp := false, implicitDefEqProofs := false}) [↓zd2, ↓ze0, ↓zc2, ↓zcc, ↓zc0, ↓zd7, ↓zd9, ↓zc5, ↓zc6, ↓zbd, ↓zda, ↓zd0, ↓zc3, ↓zc4, ↓zd5, ↓zd6, ↓zdb, ↓zbe, ↓zce, ↓zdf, ↓zde, ↓zdd, ↓zdc, ↓ze1, ↓zd3, ↓zd4, ↓zc8, ↓zbf, ↓zc1, ↓zcf, ↓zca, ↓zcb, ↓zd1, ↓zcd, ↓zc9, ↓zd8, ↓zc7, ↓w_compL_nil, ↓w_compL_cons, ↓ze4, ↓ze3, ↓ze2, ↓ze5, ↓z106, ↓z103, ↓z105, ↓z101, ↓z107, ↓z104, ↓z102, ↓ze8, ↓zf5, ↓zfd, ↓zf6, ↓zfb, ↓ze6, ↓zfc, ↓zf4, ↓ze9, ↓ze7, ↓zf2, ↓zed, ↓zf3, ↓zec, ↓zf1, ↓zee, ↓zef, ↓zfe, ↓zf9, ↓zfa, ↓zf8, ↓zf7, ↓zea, ↓zeb, ↓zf0, ↓z100, ↓zff, ↓z1q, ↓z1q', ↓z12, ↓z12', ↓z2a, ↓z2a', ↓z1c, ↓z7, ↓z15, ↓z21, ↓ze, ↓z19, ↓z26, ↓z3, ↓zc, ↓zd, ↓zf, ↓z27, ↓z8, WO_some, WO_none, IfO_true, IfO_false, z10, za, z0, z1a, z17, z11, z28, z29, z1d, z1f, z23, z1b, ↓z73, ↓z74, ↓z6f, ↓z71, ↓z72, ↓z31, ↓z30, ↓z2f, ↓z2c, ↓z2e, ↓z78, ↓z76, ↓z75, ↓z79, ↓z77, if_ok, if_bl, if_and, if_or, getV, getB, opBin, opCmp, opIdx, opCut, opBi, tru, look, look_r, eqD, eqDs, Z.pure, pures, dep, deps, put_m, put_nx, new_m, new_nx, putIx, putOwn, insOf, lkN, putL, putN, thaw, getO, ixOf, LIM, B64, asI, Z.b2, z6d, z6e, z4a, z4b, z48, z49, z69, z6a, z32, z33, z34, z35, z36, z37, z42, z43, z3e, z3f, z40, z41, z38, z39, z3a, z3b, z3c, z3d, z44, z45, z6b, z6c, z52, z53, z56, z57, z58, z66, z67, z68, z5e, z5f, z60, z59, z5a, z64, z65, z50, z51, z4e, z4f, z54, z55, z61, z62, z63, z5b, z5c, z5d, z4c, z4d, z46, z47, z82, z83, z84, z85, z86, z87, z88, zbc, zbb, zba, t_prp_0_7, z8a, z89, z7a, z7b, z7c, z7d, z7e, z7f, z80, z81, z8b, z8c, z97, za2, zad, zb5, zb6, zb7, zb8, zb9, z8d, z8e, z8f, z90, z91, z92, z93, z94, z95, z96, z98, z99, z9a, z9b, z9c, z9d, z9e, z9f, za0, za1, za3, za4, za5, za6, za7, za8, za9, zaa, zab, zac, zae, zaf, zb0, zb1, zb2, zb3, zb4, sd1, sd2, hm1, CurO, gl_so]
      cases r with
      | nil =>
        refine WR.mono (tn_n (q + 1) C1 sortW (fun w h => by simp at h)) (fun _ _ h => h.elim) ?_
        rintro _ _ M9 ⟨rfl, rfl⟩
        simp (config := {maxSteps := 4000000, dsimp := false, implicitDefEqProofs := false}) [↓zd2, ↓ze0, ↓zc2, ↓zcc, ↓zc0, ↓zd7, ↓zd9, ↓zc5, ↓zc6, ↓zbd, ↓zda, ↓zd0, ↓zc3, ↓zc4, ↓zd5, ↓zd6, ↓zdb, ↓zbe, ↓zce, ↓zdf, ↓zde, ↓zdd, ↓zdc, ↓ze1, ↓zd3, ↓zd4, ↓zc8, ↓zbf, ↓zc1, ↓zcf, ↓zca, ↓zcb, ↓zd1, ↓zcd, ↓zc9, ↓zd8, ↓zc7, ↓w_compL_nil, ↓w_compL_cons, ↓ze4, ↓ze3, ↓ze2, ↓ze5, ↓z106, ↓z103, ↓z105, ↓z101, ↓z107, ↓z104, ↓z102, ↓ze8, ↓zf5, ↓zfd, ↓zf6, ↓zfb, ↓ze6, ↓zfc, ↓zf4, ↓ze9, ↓ze7, ↓zf2, ↓zed, ↓zf3, ↓zec, ↓zf1, ↓zee, ↓zef, ↓zfe, ↓zf9, ↓zfa, ↓zf8, ↓zf7, ↓zea, ↓zeb, ↓zf0, ↓z100, ↓zff, ↓z1q, ↓z1q', ↓z12, ↓z12', ↓z2a, ↓z2a', ↓z1c, ↓z7, ↓z15, ↓z21, ↓ze, ↓z19, ↓z26, ↓z3, ↓zc, ↓zd, ↓zf, ↓z27, ↓z8, WO_some, WO_none, IfO_true, IfO_false, z10, za, z0, z1a, z17, z11, z28, z29, z1d, z1f, z23, z1b, ↓z73, ↓z74, ↓z6f, ↓z71, ↓z72, ↓z31, ↓z30, ↓z2f, ↓z2c, ↓z2e, ↓z78, ↓z76, ↓z75, ↓z79, ↓z77, if_ok, if_bl, if_and, if_or, getV, getB, opBin, opCmp, opIdx, opCut, opBi, tru, look, look_r, eqD, eqDs, Z.pure, pures, dep, deps, put_m, put_nx, new_m, new_nx, putIx, putOwn, insOf, lkN, putL, putN, thaw, getO, ixOf, LIM, B64, asI, Z.b2, z6d, z6e, z4a, z4b, z48, z49, z69, z6a, z32, z33, z34, z35, z36, z37, z42, z43, z3e, z3f, z40, z41, z38, z39, z3a, z3b, z3c, z3d, z44, z45, z6b, z6c, z52, z53, z56, z57, z58, z66, z67, z68, z5e, z5f, z60, z59, z5a, z64, z65, z50, z51, z4e, z4f, z54, z55, z61, z62, z63, z5b, z5c, z5d, z4c, z4d, z46, z47, z82, z83, z84, z85, z86, z87, z88, zbc, zbb, zba, t_prp_0_7, z8a, z89, z7a, z7b, z7c, z7d, z7e, z7f, z80, z81, z8b, z8c, z97, za2, zad, zb5, zb6, zb7, zb8, zb9, z8d, z8e, z8f, z90, z91, z92, z93, z94, z95, z96, z98, z99, z9a, z9b, z9c, z9d, z9e, z9f, za0, za1, za3, za4, za5, za6, za7, za8, za9, zaa, zab, zac, zae, zaf, zb0, zb1, zb2, zb3, zb4]
        exact ⟨1, rfl, rfl, rfl⟩
      | cons s r2 =>
        by_cases hs : s ∈ sortW
        case neg =>
          refine WR.mono (tn_n (q + 1) C1 sortW (fun w h => by simp at h; subst h; exact hs)) (fun _ _ h => h.elim) ?_
          rintro _ _ M9 ⟨rfl, rfl⟩
          simp (config := {maxSteps := 4000000, dsimp := false, implicitDefEqProofs := false}) [↓zd2, ↓ze0, ↓zc2, ↓zcc, ↓zc0, ↓zd7, ↓zd9, ↓zc5, ↓zc6, ↓zbd, ↓zda, ↓zd0, ↓zc3, ↓zc4, ↓zd5, ↓zd6, ↓zdb, ↓zbe, ↓zce, ↓zdf, ↓zde, ↓zdd, ↓zdc, ↓ze1, ↓zd3, ↓zd4, ↓zc8, ↓zbf, ↓zc1, ↓zcf, ↓zca, ↓zcb, ↓zd1, ↓zcd, ↓zc9, ↓zd8, ↓zc7, ↓w_compL_nil, ↓w_compL_cons, ↓ze4, ↓ze3, ↓ze2, ↓ze5, ↓z106, ↓z103, ↓z105, ↓z101, ↓z107, ↓z104, ↓z102, ↓ze8, ↓zf5, ↓zfd, ↓zf6, ↓zfb, ↓ze6, ↓zfc, ↓zf4, ↓ze9, ↓ze7, ↓zf2, ↓zed, ↓zf3, ↓zec, ↓zf1, ↓zee, ↓zef, ↓zfe, ↓zf9, ↓zfa, ↓zf8, ↓zf7, ↓zea, ↓zeb, ↓zf0, ↓z100, ↓zff, ↓z1q, ↓z1q', ↓z12, ↓z12', ↓z2a, ↓z2a', ↓z1c, ↓z7, ↓z15, ↓z21, ↓ze, ↓z19, ↓z26, ↓z3, ↓zc, ↓zd, ↓zf, ↓z27, ↓z8, WO_some, WO_none, IfO_true, IfO_false, z10, za, z0, z1a, z17, z11, z28, z29, z1d, z1f, z23, z1b, ↓z73, ↓z74, ↓z6f, ↓z71, ↓z72, ↓z31, ↓z30, ↓z2f, ↓z2c, ↓z2e, ↓z78, ↓z76, ↓z75, ↓z79, ↓z77, if_ok, if_bl, if_and, if_or, getV, getB, opBin, opCmp, opIdx, opCut, opBi, tru, look, look_r, eqD, eqDs, Z.pure, pures, dep, deps, put_m, put_nx, new_m, new_nx, putIx, putOwn, insOf, lkN, putL, putN, thaw, getO, ixOf, LIM, B64, asI, Z.b2, z6d, z6e, z4a, z4b, z48, z49, z69, z6a, z32, z33, z34, z35, z36, z37, z42, z43, z3e, z3f, z40, z41, z38, z39, z3a, z3b, z3c, z3d, z44, z45, z6b, z6c, z52, z53, z56, z57, z58, z66, z67, z68, z5e, z5f, z60, z59, z5a, z64, z65, z50, z51, z4e, z4f, z54, z55, z61, z62, z63, z5b, z5c, z5d, z4c, z4d, z46, z47, z82, z83, z84, z85, z86, z87, z88, zbc, zbb, zba, t_prp_0_7, z8a, z89, z7a, z7b, z7c, z7d, z7e, z7f, z80, z81, z8b, z8c, z97, za2, zad, zb5, zb6, zb7, zb8, zb9, z8d, z8e, z8f, z90, z91, z92, z93, z94, z95, z96, z98, z99, z9a, z9b, z9c, z9d, z9e, z9f, za0, za1, za3, za4, za5, za6, za7, za8, za9, zaa, zab, zac, zae, zaf, zb0, zb1, zb2, zb3, zb4]
          exact ⟨1, by simp [RE, sd1, sd2, hs], rfl, rfl⟩
        refine (tn_y (q + 1) C1 sortW s rfl hs).go ?_
        rintro _ M3 ⟨rfl, C2⟩
        have hm2 := C2.h
        simp (config := {maxSteps := 4000000, dsimp := false, implicitDefEqProofs := false}) [↓zd2, ↓ze0, ↓zc2, ↓zcc, ↓zc0, ↓zd7, ↓zd9, ↓zc5, ↓zc6, ↓zbd, ↓zda, ↓zd0, ↓zc3, ↓zc4, ↓zd5, ↓zd6, ↓zdb, ↓zbe, ↓zce, ↓zdf, ↓zde, ↓zdd, ↓zdc, ↓ze1, ↓zd3, ↓zd4, ↓zc8, ↓zbf, ↓zc1, ↓zcf, ↓zca, ↓zcb, ↓zd1, ↓zcd, ↓zc9, ↓zd8, ↓zc7, ↓w_compL_nil, ↓w_compL_cons, ↓ze4, ↓ze3, ↓ze2, ↓ze5, ↓z106, ↓z103, ↓z105, ↓z101, ↓z107, ↓z104, ↓z102, ↓ze8, ↓zf5, ↓zfd, ↓zf6, ↓zfb, ↓ze6, ↓zfc, ↓zf4, ↓ze9, ↓ze7, ↓zf2, ↓zed, ↓zf3, ↓zec, ↓zf1, ↓zee, ↓zef, ↓zfe, ↓zf9, ↓zfa, ↓zf8, ↓zf7, ↓zea, ↓zeb, ↓zf0, ↓z100, ↓zff, ↓z1q, ↓z1q', ↓z12, ↓z12', ↓z2a, ↓z2a', ↓z1c, ↓z7, ↓z15, ↓z21, ↓ze, ↓z19, ↓z26, ↓z3, ↓zc, ↓zd, ↓zf, ↓z27, ↓z8, WO_some, WO_none, IfO_true, IfO_false, z10, za, z0, z1a, z17, z11, z28, z29, z1d, z1f, z23, z1b, ↓z73, ↓z74, ↓z6f, ↓z71, ↓z72, ↓z31, ↓z30, ↓z2f, ↓z2c, ↓z2e, ↓z78, ↓z76, ↓z75, ↓z79, ↓z77, if_ok, if_bl, if_and, if_or, getV, getB, opBin, opCmp, opIdx, opCut, opBi, tru, look, look_r, eqD, eqDs, Z.pure, pures, dep, deps, put_m, put_nx, new_m, new_nx, putIx, putOwn, insOf, lkN, putL, putN, thaw, getO, ixOf, LIM, B64, asI, Z.b2, z6d, z6e, z4a, z4b, z48, z49, z69, z6a, z32, z33, z34, z35, z36, z37, z42, z43, z3e, z3f, z40, z41, z38, z39, z3a, z3b, z3c, z3d, z44, z45, z6b, z6c, z52, z53, z56, z57, z58, z66, z67, z68, z5e, z5f, z60, z59, z5a, z64, z65, z50, z51, z4e, z4f, z54, z55, z61, z62, z63, z5b, z5c, z5d, z4c, z4d, z46, z47, z82, z83, z84, z85, z86, z87, z88, zbc, zbb, zba, t_prp_0_7, z8a, z89, z7a, z7b, z7c, z7d, z7e, z7f, z80, z81, z8b, z8c, z97, za2, zad, zb5, zb6, zb7, zb8, zb9, z8d, z8e, z8f, z90, z91, z92, z93, z94, z95, z96, z98, z99, z9a, z9b, z9c, z9d, z9e, z9f, za0, za1, za3, za4, za5, za6, za7, za8, za9, zaa, zab, zac, zae, zaf, zb0, zb1, zb2, zb3, zb4, hm2, CurO]
        cases r2 with
        | nil =>
          refine WR.mono (nn_n (q + 1) C2 (fun w h => by simp at h)) (fun _ _ h => h.elim) ?_
          rintro _ _ M9 ⟨rfl, rfl⟩
          simp (config := {maxSteps := 4000000, dsimp := false, implicitDefEqProofs := false}) [↓zd2, ↓ze0, ↓zc2, ↓zcc, ↓zc0, ↓zd7, ↓zd9, ↓zc5, ↓zc6, ↓zbd, ↓zda, ↓zd0, ↓zc3, ↓zc4, ↓zd5, ↓zd6, ↓zdb, ↓zbe, ↓zce, ↓zdf, ↓zde, ↓zdd, ↓zdc, ↓ze1, ↓zd3, ↓zd4, ↓zc8, ↓zbf, ↓zc1, ↓zcf, ↓zca, ↓zcb, ↓zd1, ↓zcd, ↓zc9, ↓zd8, ↓zc7, ↓w_compL_nil, ↓w_compL_cons, ↓ze4, ↓ze3, ↓ze2, ↓ze5, ↓z106, ↓z103, ↓z105, ↓z101, ↓z107, ↓z104, ↓z102, ↓ze8, ↓zf5, ↓zfd, ↓zf6, ↓zfb, ↓ze6, ↓zfc, ↓zf4, ↓ze9, ↓ze7, ↓zf2, ↓zed, ↓zf3, ↓zec, ↓zf1, ↓zee, ↓zef, ↓zfe, ↓zf9, ↓zfa, ↓zf8, ↓zf7, ↓zea, ↓zeb, ↓zf0, ↓z100, ↓zff, ↓z1q, ↓z1q', ↓z12, ↓z12', ↓z2a, ↓z2a', ↓z1c, ↓z7, ↓z15, ↓z21, ↓ze, ↓z19, ↓z26, ↓z3, ↓zc, ↓zd, ↓zf, ↓z27, ↓z8, WO_some, WO_none, IfO_true, IfO_false, z10, za, z0, z1a, z17, z11, z28, z29, z1d, z1f, z23, z1b, ↓z73, ↓z74, ↓z6f, ↓z71, ↓z72, ↓z31, ↓z30, ↓z2f, ↓z2c, ↓z2e, ↓z78, ↓z76, ↓z75, ↓z79, ↓z77, if_ok, if_bl, if_and, if_or, getV, getB, opBin, opCmp, opIdx, opCut, opBi, tru, look, look_r, eqD, eqDs, Z.pure, pures, dep, deps, put_m, put_nx, new_m, new_nx, putIx, putOwn, insOf, lkN, putL, putN, thaw, getO, ixOf, LIM, B64, asI, Z.b2, z6d, z6e, z4a, z4b, z48, z49, z69, z6a, z32, z33, z34, z35, z36, z37, z42, z43, z3e, z3f, z40, z41, z38, z39, z3a, z3b, z3c, z3d, z44, z45, z6b, z6c, z52, z53, z56, z57, z58, z66, z67, z68, z5e, z5f, z60, z59, z5a, z64, z65, z50, z51, z4e, z4f, z54, z55, z61, z62, z63, z5b, z5c, z5d, z4c, z4d, z46, z47, z82, z83, z84, z85, z86, z87, z88, zbc, zbb, zba, t_prp_0_7, z8a, z89, z7a, z7b, z7c, z7d, z7e, z7f, z80, z81, z8b, z8c, z97, za2, zad, zb5, zb6, zb7, zb8, zb9, z8d, z8e, z8f, z90, z91, z92, z93, z94, z95, z96, z98, z99, z9a, z9b, z9c, z9d, z9e, z9f, za0, za1, za3, za4, za5, za6, za7, za8, za9, zaa, zab, zac, zae, zaf, zb0, zb1, zb2, zb3, zb4]
          exact ⟨2, by simp [RE, sd1, sd2, hs], rfl, rfl⟩
        | cons x r3 =>
          by_cases hx : isN x = true
          case neg =>
            refine WR.mono (nn_n (q + 1) C2 (fun w h => by simp at h; subst h; exact hx)) (fun _ _ h => h.elim) ?_
            rintro _ _ M9 ⟨rfl, rfl⟩
            simp (config := {maxSteps := 4000000, dsimp := false, implicitDefEqProofs := false}) [↓zd2, ↓ze0, ↓zc2, ↓zcc, ↓zc0, ↓zd7, ↓zd9, ↓zc5, ↓zc6, ↓zbd, ↓zda, ↓zd0, ↓zc3, ↓zc4, ↓zd5, ↓zd6, ↓zdb, ↓zbe, ↓zce, ↓zdf, ↓zde, ↓zdd, ↓zdc, ↓ze1, ↓zd3, ↓zd4, ↓zc8, ↓zbf, ↓zc1, ↓zcf, ↓zca, ↓zcb, ↓zd1, ↓zcd, ↓zc9, ↓zd8, ↓zc7, ↓w_compL_nil, ↓w_compL_cons, ↓ze4, ↓ze3, ↓ze2, ↓ze5, ↓z106, ↓z103, ↓z105, ↓z101, ↓z107, ↓z104, ↓z102, ↓ze8, ↓zf5, ↓zfd, ↓zf6, ↓zfb, ↓ze6, ↓zfc, ↓zf4, ↓ze9, ↓ze7, ↓zf2, ↓zed, ↓zf3, ↓zec, ↓zf1, ↓zee, ↓zef, ↓zfe, ↓zf9, ↓zfa, ↓zf8, ↓zf7, ↓zea, ↓zeb, ↓zf0, ↓z100, ↓zff, ↓z1q, ↓z1q', ↓z12, ↓z12', ↓z2a, ↓z2a', ↓z1c, ↓z7, ↓z15, ↓z21, ↓ze, ↓z19, ↓z26, ↓z3, ↓zc, ↓zd, ↓zf, ↓z27, ↓z8, WO_some, WO_none, IfO_true, IfO_false, z10, za, z0, z1a, z17, z11, z28, z29, z1d, z1f, z23, z1b, ↓z73, ↓z74, ↓z6f, ↓z71, ↓z72, ↓z31, ↓z30, ↓z2f, ↓z2c, ↓z2e, ↓z78, ↓z76, ↓z75, ↓z79, ↓z77, if_ok, if_bl, if_and, if_or, getV, getB, opBin, opCmp, opIdx, opCut, opBi, tru, look, look_r, eqD, eqDs, Z.pure, pures, dep, deps, put_m, put_nx, new_m, new_nx, putIx, putOwn, insOf, lkN, putL, putN, thaw, getO, ixOf, LIM, B64, asI, Z.b2, z6d, z6e, z4a, z4b, z48, z49, z69, z6a, z32, z33, z34, z35, z36, z37, z42, z43, z3e, z3f, z40, z41, z38, z39, z3a, z3b, z3c, z3d, z44, z45, z6b, z6c, z52, z53, z56, z57, z58, z66, z67, z68, z5e, z5f, z60, z59, z5a, z64, z65, z50, z51, z4e, z4f, z54, z55, z61, z62, z63, z5b, z5c, z5d, z4c, z4d, z46, z47, z82, z83, z84, z85, z86, z87, z88, zbc, zbb, zba, t_prp_0_7, z8a, z89, z7a, z7b, z7c, z7d, z7e, z7f, z80, z81, z8b, z8c, z97, za2, zad, zb5, zb6, zb7, zb8, zb9, z8d, z8e, z8f, z90, z91, z92, z93, z94, z95, z96, z98, z99, z9a, z9b, z9c, z9d, z9e, z9f, za0, za1, za3, za4, za5, za6, za7, za8, za9, zaa, zab, zac, zae, zaf, zb0, zb1, zb2, zb3, zb4]
            exact ⟨2, by simp [RE, sd1, sd2, hs, hx], rfl, rfl⟩
          refine (nn_y (q + 1) C2 x rfl hx).go ?_
          rintro _ M4 ⟨rfl, C3⟩
          have hwd := word_ok (q + 2) C3
          have hm := (C3).h
          cases r3 with
          | cons z r9 =>
            simp (config := {maxSteps := 4000000, dsimp := false, implicitDefEqProofs := false}) [↓zd2, ↓ze0, ↓zc2, ↓zcc, ↓zc0, ↓zd7, ↓zd9, ↓zc5, ↓zc6, ↓zbd, ↓zda, ↓zd0, ↓zc3, ↓zc4, ↓zd5, ↓zd6, ↓zdb, ↓zbe, ↓zce, ↓zdf, ↓zde, ↓zdd, ↓zdc, ↓ze1, ↓zd3, ↓zd4, ↓zc8, ↓zbf, ↓zc1, ↓zcf, ↓zca, ↓zcb, ↓zd1, ↓zcd, ↓zc9, ↓zd8, ↓zc7, ↓w_compL_nil, ↓w_compL_cons, ↓ze4, ↓ze3, ↓ze2, ↓ze5, ↓z106, ↓z103, ↓z105, ↓z101, ↓z107, ↓z104, ↓z102, ↓ze8, ↓zf5, ↓zfd, ↓zf6, ↓zfb, ↓ze6, ↓zfc, ↓zf4, ↓ze9, ↓ze7, ↓zf2, ↓zed, ↓zf3, ↓zec, ↓zf1, ↓zee, ↓zef, ↓zfe, ↓zf9, ↓zfa, ↓zf8, ↓zf7, ↓zea, ↓zeb, ↓zf0, ↓z100, ↓zff, ↓z1q, ↓z1q', ↓z12, ↓z12', ↓z2a, ↓z2a', ↓z1c, ↓z7, ↓z15, ↓z21, ↓ze, ↓z19, ↓z26, ↓z3, ↓zc, ↓zd, ↓zf, ↓z27, ↓z8, WO_some, WO_none, IfO_true, IfO_false, z10, za, z0, z1a, z17, z11, z28, z29, z1d, z1f, z23, z1b, ↓z73, ↓z74, ↓z6f, ↓z71, ↓z72, ↓z31, ↓z30, ↓z2f, ↓z2c, ↓z2e, ↓z78, ↓z76, ↓z75, ↓z79, ↓z77, if_ok, if_bl, if_and, if_or, getV, getB, opBin, opCmp, opIdx, opCut, opBi, tru, look, look_r, eqD, eqDs, Z.pure, pures, dep, deps, put_m, put_nx, new_m, new_nx, putIx, putOwn, insOf, lkN, putL, putN, thaw, getO, ixOf, LIM, B64, asI, Z.b2, z6d, z6e, z4a, z4b, z48, z49, z69, z6a, z32, z33, z34, z35, z36, z37, z42, z43, z3e, z3f, z40, z41, z38, z39, z3a, z3b, z3c, z3d, z44, z45, z6b, z6c, z52, z53, z56, z57, z58, z66, z67, z68, z5e, z5f, z60, z59, z5a, z64, z65, z50, z51, z4e, z4f, z54, z55, z61, z62, z63, z5b, z5c, z5d, z4c, z4d, z46, z47, z82, z83, z84, z85, z86, z87, z88, zbc, zbb, zba, t_prp_0_7, z8a, z89, z7a, z7b, z7c, z7d, z7e, z7f, z80, z81, z8b, z8c, z97, za2, zad, zb5, zb6, zb7, zb8, zb9, z8d, z8e, z8f, z90, z91, z92, z93, z94, z95, z96, z98, z99, z9a, z9b, z9c, z9d, z9e, z9f, za0, za1, za3, za4, za5, za6, za7, za8, za9, zaa, zab, zac, zae, zaf, zb0, zb1, zb2, zb3, zb4, hwd, wdD, CurO, hm]
            exact ⟨3, by simp [RE,sd1,sd2,hs,hx, fin], rfl, rfl⟩
          | nil =>
            simp (config := {maxSteps := 4000000, dsimp := false, implicitDefEqProofs := false}) [↓zd2, ↓ze0, ↓zc2, ↓zcc, ↓zc0, ↓zd7, ↓zd9, ↓zc5, ↓zc6, ↓zbd, ↓zda, ↓zd0, ↓zc3, ↓zc4, ↓zd5, ↓zd6, ↓zdb, ↓zbe, ↓zce, ↓zdf, ↓zde, ↓zdd, ↓zdc, ↓ze1, ↓zd3, ↓zd4, ↓zc8, ↓zbf, ↓zc1, ↓zcf, ↓zca, ↓zcb, ↓zd1, ↓zcd, ↓zc9, ↓zd8, ↓zc7, ↓w_compL_nil, ↓w_compL_cons, ↓ze4, ↓ze3, ↓ze2, ↓ze5, ↓z106, ↓z103, ↓z105, ↓z101, ↓z107, ↓z104, ↓z102, ↓ze8, ↓zf5, ↓zfd, ↓zf6, ↓zfb, ↓ze6, ↓zfc, ↓zf4, ↓ze9, ↓ze7, ↓zf2, ↓zed, ↓zf3, ↓zec, ↓zf1, ↓zee, ↓zef, ↓zfe, ↓zf9, ↓zfa, ↓zf8, ↓zf7, ↓zea, ↓zeb, ↓zf0, ↓z100, ↓zff, ↓z1q, ↓z1q', ↓z12, ↓z12', ↓z2a, ↓z2a', ↓z1c, ↓z7, ↓z15, ↓z21, ↓ze, ↓z19, ↓z26, ↓z3, ↓zc, ↓zd, ↓zf, ↓z27, ↓z8, WO_some, WO_none, IfO_true, IfO_false, z10, za, z0, z1a, z17, z11, z28, z29, z1d, z1f, z23, z1b, ↓z73, ↓z74, ↓z6f, ↓z71, ↓z72, ↓z31, ↓z30, ↓z2f, ↓z2c, ↓z2e, ↓z78, ↓z76, ↓z75, ↓z79, ↓z77, if_ok, if_bl, if_and, if_or, getV, getB, opBin, opCmp, opIdx, opCut, opBi, tru, look, look_r, eqD, eqDs, Z.pure, pures, dep, deps, put_m, put_nx, new_m, new_nx, putIx, putOwn, insOf, lkN, putL, putN, thaw, getO, ixOf, LIM, B64, asI, Z.b2, z6d, z6e, z4a, z4b, z48, z49, z69, z6a, z32, z33, z34, z35, z36, z37, z42, z43, z3e, z3f, z40, z41, z38, z39, z3a, z3b, z3c, z3d, z44, z45, z6b, z6c, z52, z53, z56, z57, z58, z66, z67, z68, z5e, z5f, z60, z59, z5a, z64, z65, z50, z51, z4e, z4f, z54, z55, z61, z62, z63, z5b, z5c, z5d, z4c, z4d, z46, z47, z82, z83, z84, z85, z86, z87, z88, zbc, zbb, zba, t_prp_0_7, z8a, z89, z7a, z7b, z7c, z7d, z7e, z7f, z80, z81, z8b, z8c, z97, za2, zad, zb5, zb6, zb7, zb8, zb9, z8d, z8e, z8f, z90, z91, z92, z93, z94, z95, z96, z98, z99, z9a, z9b, z9c, z9d, z9e, z9f, za0, za1, za3, za4, za5, za6, za7, za8, za9, zaa, zab, zac, zae, zaf, zb0, zb1, zb2, zb3, zb4, hwd, wdD, CurO, hm]
            exact ⟨_, by simp [RE,sd1,sd2,hs,hx, fin]; rfl, rfl⟩
    · subst hk
      simp (config := {maxSteps := 4000000, dsimp := false, implicitDefEqProofs := false}) [↓zd2, ↓ze0, ↓zc2, ↓zcc, ↓zc0, ↓zd7, ↓zd9, ↓zc5, ↓zc6, ↓zbd, ↓zda, ↓zd0, ↓zc3, ↓zc4, ↓zd5, ↓zd6, ↓zdb, ↓zbe, ↓zce, ↓zdf, ↓zde, ↓zdd, ↓zdc, ↓ze1, ↓zd3, ↓zd4, ↓zc8, ↓zbf, ↓zc1, ↓zcf, ↓zca, ↓zcb, ↓zd1, ↓zcd, ↓zc9, ↓zd8, ↓zc7, ↓w_compL_nil, ↓w_compL_cons, ↓ze4, ↓ze3, ↓ze2, ↓ze5, ↓z106, ↓z103, ↓z105, ↓z101, ↓z107, ↓z104, ↓z102, ↓ze8, ↓zf5, ↓zfd, ↓zf6, ↓zfb, ↓ze6, ↓zfc, ↓zf4, ↓ze9, ↓ze7, ↓zf2, ↓zed, ↓zf3, ↓zec, ↓zf1, ↓zee, ↓zef, ↓zfe, ↓zf9, ↓zfa, ↓zf8, ↓zf7, ↓zea, ↓zeb, ↓zf0, ↓z100, ↓zff, ↓z1q, ↓z1q', ↓z12, ↓z12', ↓z2a, ↓z2a', ↓z1c, ↓z7, ↓z15, ↓z21, ↓ze, ↓z19, ↓z26, ↓z3, ↓zc, ↓zd, ↓zf, ↓z27, ↓z8, WO_some, WO_none, IfO_true, IfO_false, z10, za, z0, z1a, z17, z11, z28, z29, z1d, z1f, z23, z1b, ↓z73, ↓z74, ↓z6f, ↓z71, ↓z72, ↓z31, ↓z30, ↓z2f, ↓z2c, ↓z2e, ↓z78, ↓z76, ↓z75, ↓z79, ↓z77, if_ok, if_bl, if_and, if_or, getV, getB, opBin, opCmp, opIdx, opCut, opBi, tru, look, look_r, eqD, eqDs, Z.pure, pures, dep, deps, put_m, put_nx, new_m, new_nx, putIx, putOwn, insOf, lkN, putL, putN, thaw, getO, ixOf, LIM, B64, asI, Z.b2, z6d, z6e, z4a, z4b, z48, z49, z69, z6a, z32, z33, z34, z35, z36, z37, z42, z43, z3e, z3f, z40, z41, z38, z39, z3a, z3b, z3c, z3d, z44, z45, z6b, z6c, z52, z53, z56, z57, z58, z66, z67, z68, z5e, z5f, z60, z59, z5a, z64, z65, z50, z51, z4e, z4f, z54, z55, z61, z62, z63, z5b, z5c, z5d, z4c, z4d, z46, z47, z82, z83, z84, z85, z86, z87, z88, zbc, zbb, zba, t_prp_0_7, z8a, z89, z7a, z7b, z7c, z7d, z7e, z7f, z80, z81, z8b, z8c, z97, za2, zad, zb5, zb6, zb7, zb8, zb9, z8d, z8e, z8f, z90, z91, z92, z93, z94, z95, z96, z98, z99, z9a, z9b, z9c, z9d, z9e, z9f, za0, za1, za3, za4, za5, za6, za7, za8, za9, zaa, zab, zac, zae, zaf, zb0, zb1, zb2, zb3, zb4, ss1, ss2, ss3, hm1, CurO]
      cases r with
      | nil =>
        refine WR.mono (nn_n (q + 1) C1 (fun w h => by simp at h)) (fun _ _ h => h.elim) ?_
        rintro _ _ M9 ⟨rfl, rfl⟩
        simp (config := {maxSteps := 4000000, dsimp := false, implicitDefEqProofs := false}) [↓zd2, ↓ze0, ↓zc2, ↓zcc, ↓zc0, ↓zd7, ↓zd9, ↓zc5, ↓zc6, ↓zbd, ↓zda, ↓zd0, ↓zc3, ↓zc4, ↓zd5, ↓zd6, ↓zdb, ↓zbe, ↓zce, ↓zdf, ↓zde, ↓zdd, ↓zdc, ↓ze1, ↓zd3, ↓zd4, ↓zc8, ↓zbf, ↓zc1, ↓zcf, ↓zca, ↓zcb, ↓zd1, ↓zcd, ↓zc9, ↓zd8, ↓zc7, ↓w_compL_nil, ↓w_compL_cons, ↓ze4, ↓ze3, ↓ze2, ↓ze5, ↓z106, ↓z103, ↓z105, ↓z101, ↓z107, ↓z104, ↓z102, ↓ze8, ↓zf5, ↓zfd, ↓zf6, ↓zfb, ↓ze6, ↓zfc, ↓zf4, ↓ze9, ↓ze7, ↓zf2, ↓zed, ↓zf3, ↓zec, ↓zf1, ↓zee, ↓zef, ↓zfe, ↓zf9, ↓zfa, ↓zf8, ↓zf7, ↓zea, ↓zeb, ↓zf0, ↓z100, ↓zff, ↓z1q, ↓z1q', ↓z12, ↓z12', ↓z2a, ↓z2a', ↓z1c, ↓z7, ↓z15, ↓z21, ↓ze, ↓z19, ↓z26, ↓z3, ↓zc, ↓zd, ↓zf, ↓z27, ↓z8, WO_some, WO_none, IfO_true, IfO_false, z10, za, z0, z1a, z17, z11, z28, z29, z1d, z1f, z23, z1b, ↓z73, ↓z74, ↓z6f, ↓z71, ↓z72, ↓z31, ↓z30, ↓z2f, ↓z2c, ↓z2e, ↓z78, ↓z76, ↓z75, ↓z79, ↓z77, if_ok, if_bl, if_and, if_or, getV, getB, opBin, opCmp, opIdx, opCut, opBi, tru, look, look_r, eqD, eqDs, Z.pure, pures, dep, deps, put_m, put_nx, new_m, new_nx, putIx, putOwn, insOf, lkN, putL, putN, thaw, getO, ixOf, LIM, B64, asI, Z.b2, z6d, z6e, z4a, z4b, z48, z49, z69, z6a, z32, z33, z34, z35, z36, z37, z42, z43, z3e, z3f, z40, z41, z38, z39, z3a, z3b, z3c, z3d, z44, z45, z6b, z6c, z52, z53, z56, z57, z58, z66, z67, z68, z5e, z5f, z60, z59, z5a, z64, z65, z50, z51, z4e, z4f, z54, z55, z61, z62, z63, z5b, z5c, z5d, z4c, z4d, z46, z47, z82, z83, z84, z85, z86, z87, z88, zbc, zbb, zba, t_prp_0_7, z8a, z89, z7a, z7b, z7c, z7d, z7e, z7f, z80, z81, z8b, z8c, z97, za2, zad, zb5, zb6, zb7, zb8, zb9, z8d, z8e, z8f, z90, z91, z92, z93, z94, z95, z96, z98, z99, z9a, z9b, z9c, z9d, z9e, z9f, za0, za1, za3, za4, za5, za6, za7, za8, za9, zaa, zab, zac, zae, zaf, zb0, zb1, zb2, zb3, zb4]
        exact ⟨1, rfl, rfl, rfl⟩
      | cons x r2 =>
        by_cases hx : isN x = true
        case neg =>
          refine WR.mono (nn_n (q + 1) C1 (fun w h => by simp at h; subst h; exact hx)) (fun _ _ h => h.elim) ?_
          rintro _ _ M9 ⟨rfl, rfl⟩
          simp (config := {maxSteps := 4000000, dsimp := false, implicitDefEqProofs := false}) [↓zd2, ↓ze0, ↓zc2, ↓zcc, ↓zc0, ↓zd7, ↓zd9, ↓zc5, ↓zc6, ↓zbd, ↓zda, ↓zd0, ↓zc3, ↓zc4, ↓zd5, ↓zd6, ↓zdb, ↓zbe, ↓zce, ↓zdf, ↓zde, ↓zdd, ↓zdc, ↓ze1, ↓zd3, ↓zd4, ↓zc8, ↓zbf, ↓zc1, ↓zcf, ↓zca, ↓zcb, ↓zd1, ↓zcd, ↓zc9, ↓zd8, ↓zc7, ↓w_compL_nil, ↓w_compL_cons, ↓ze4, ↓ze3, ↓ze2, ↓ze5, ↓z106, ↓z103, ↓z105, ↓z101, ↓z107, ↓z104, ↓z102, ↓ze8, ↓zf5, ↓zfd, ↓zf6, ↓zfb, ↓ze6, ↓zfc, ↓zf4, ↓ze9, ↓ze7, ↓zf2, ↓zed, ↓zf3, ↓zec, ↓zf1, ↓zee, ↓zef, ↓zfe, ↓zf9, ↓zfa, ↓zf8, ↓zf7, ↓zea, ↓zeb, ↓zf0, ↓z100, ↓zff, ↓z1q, ↓z1q', ↓z12, ↓z12', ↓z2a, ↓z2a', ↓z1c, ↓z7, ↓z15, ↓z21, ↓ze, ↓z19, ↓z26, ↓z3, ↓zc, ↓zd, ↓zf, ↓z27, ↓z8, WO_some, WO_none, IfO_true, IfO_false, z10, za, z0, z1a, z17, z11, z28, z29, z1d, z1f, z23, z1b, ↓z73, ↓z74, ↓z6f, ↓z71, ↓z72, ↓z31, ↓z30, ↓z2f, ↓z2c, ↓z2e, ↓z78, ↓z76, ↓z75, ↓z79, ↓z77, if_ok, if_bl, if_and, if_or, getV, getB, opBin, opCmp, opIdx, opCut, opBi, tru, look, look_r, eqD, eqDs, Z.pure, pures, dep, deps, put_m, put_nx, new_m, new_nx, putIx, putOwn, insOf, lkN, putL, putN, thaw, getO, ixOf, LIM, B64, asI, Z.b2, z6d, z6e, z4a, z4b, z48, z49, z69, z6a, z32, z33, z34, z35, z36, z37, z42, z43, z3e, z3f, z40, z41, z38, z39, z3a, z3b, z3c, z3d, z44, z45, z6b, z6c, z52, z53, z56, z57, z58, z66, z67, z68, z5e, z5f, z60, z59, z5a, z64, z65, z50, z51, z4e, z4f, z54, z55, z61, z62, z63, z5b, z5c, z5d, z4c, z4d, z46, z47, z82, z83, z84, z85, z86, z87, z88, zbc, zbb, zba, t_prp_0_7, z8a, z89, z7a, z7b, z7c, z7d, z7e, z7f, z80, z81, z8b, z8c, z97, za2, zad, zb5, zb6, zb7, zb8, zb9, z8d, z8e, z8f, z90, z91, z92, z93, z94, z95, z96, z98, z99, z9a, z9b, z9c, z9d, z9e, z9f, za0, za1, za3, za4, za5, za6, za7, za8, za9, zaa, zab, zac, zae, zaf, zb0, zb1, zb2, zb3, zb4]
          exact ⟨1, by simp [RE, ss1, ss2, ss3, hx], rfl, rfl⟩
        refine (nn_y (q + 1) C1 x rfl hx).go ?_
        rintro _ M3 ⟨rfl, C2⟩
        have hm2 := C2.h
        simp (config := {maxSteps := 4000000, dsimp := false, implicitDefEqProofs := false}) [↓zd2, ↓ze0, ↓zc2, ↓zcc, ↓zc0, ↓zd7, ↓zd9, ↓zc5, ↓zc6, ↓zbd, ↓zda, ↓zd0, ↓zc3, ↓zc4, ↓zd5, ↓zd6, ↓zdb, ↓zbe, ↓zce, ↓zdf, ↓zde, ↓zdd, ↓zdc, ↓ze1, ↓zd3, ↓zd4, ↓zc8, ↓zbf, ↓zc1, ↓zcf, ↓zca, ↓zcb, ↓zd1, ↓zcd, ↓zc9, ↓zd8, ↓zc7, ↓w_compL_nil, ↓w_compL_cons, ↓ze4, ↓ze3, ↓ze2, ↓ze5, ↓z106, ↓z103, ↓z105, ↓z101, ↓z107, ↓z104, ↓z102, ↓ze8, ↓zf5, ↓zfd, ↓zf6, ↓zfb, ↓ze6, ↓zfc, ↓zf4, ↓ze9, ↓ze7, ↓zf2, ↓zed, ↓zf3, ↓zec, ↓zf1, ↓zee, ↓zef, ↓zfe, ↓zf9, ↓zfa, ↓zf8, ↓zf7, ↓zea, ↓zeb, ↓zf0, ↓z100, ↓zff, ↓z1q, ↓z1q', ↓z12, ↓z12', ↓z2a, ↓z2a', ↓z1c, ↓z7, ↓z15, ↓z21, ↓ze, ↓z19, ↓z26, ↓z3, ↓zc, ↓zd, ↓zf, ↓z27, ↓z8, WO_some, WO_none, IfO_true, IfO_false, z10, za, z0, z1a, z17, z11, z28, z29, z1d, z1f, z23, z1b, ↓z73, ↓z74, ↓z6f, ↓z71, ↓z72, ↓z31, ↓z30, ↓z2f, ↓z2c, ↓z2e, ↓z78, ↓z76, ↓z75, ↓z79, ↓z77, if_ok, if_bl, if_and, if_or, getV, getB, opBin, opCmp, opIdx, opCut, opBi, tru, look, look_r, eqD, eqDs, Z.pure, pures, dep, deps, put_m, put_nx, new_m, new_nx, putIx, putOwn, insOf, lkN, putL, putN, thaw, getO, ixOf, LIM, B64, asI, Z.b2, z6d, z6e, z4a, z4b, z48, z49, z69, z6a, z32, z33, z34, z35, z36, z37, z42, z43, z3e, z3f, z40, z41, z38, z39, z3a, z3b, z3c, z3d, z44, z45, z6b, z6c, z52, z53, z56, z57, z58, z66, z67, z68, z5e, z5f, z60, z59, z5a, z64, z65, z50, z51, z4e, z4f, z54, z55, z61, z62, z63, z5b, z5c, z5d, z4c, z4d, z46, z47, z82, z83, z84, z85, z86, z87, z88, zbc, zbb, zba, t_prp_0_7, z8a, z89, z7a, z7b, z7c, z7d, z7e, z7f, z80, z81, z8b, z8c, z97, za2, zad, zb5, zb6, zb7, zb8, zb9, z8d, z8e, z8f, z90, z91, z92, z93, z94, z95, z96, z98, z99, z9a, z9b, z9c, z9d, z9e, z9f, za0, za1, za3, za4, za5, za6, za7, za8, za9, zaa, zab, zac, zae, zaf, zb0, zb1, zb2, zb3, zb4, hm2, CurO]
        cases r2 with
        | nil =>
          refine WR.mono (tn_n (q + 1) C2 [s_on, s_off] (fun w h => by simp at h)) (fun _ _ h => h.elim) ?_
          rintro _ _ M9 ⟨rfl, rfl⟩
          simp (config := {maxSteps := 4000000, dsimp := false, implicitDefEqProofs := false}) [↓zd2, ↓ze0, ↓zc2, ↓zcc, ↓zc0, ↓zd7, ↓zd9, ↓zc5, ↓zc6, ↓zbd, ↓zda, ↓zd0, ↓zc3, ↓zc4, ↓zd5, ↓zd6, ↓zdb, ↓zbe, ↓zce, ↓zdf, ↓zde, ↓zdd, ↓zdc, ↓ze1, ↓zd3, ↓zd4, ↓zc8, ↓zbf, ↓zc1, ↓zcf, ↓zca, ↓zcb, ↓zd1, ↓zcd, ↓zc9, ↓zd8, ↓zc7, ↓w_compL_nil, ↓w_compL_cons, ↓ze4, ↓ze3, ↓ze2, ↓ze5, ↓z106, ↓z103, ↓z105, ↓z101, ↓z107, ↓z104, ↓z102, ↓ze8, ↓zf5, ↓zfd, ↓zf6, ↓zfb, ↓ze6, ↓zfc, ↓zf4, ↓ze9, ↓ze7, ↓zf2, ↓zed, ↓zf3, ↓zec, ↓zf1, ↓zee, ↓zef, ↓zfe, ↓zf9, ↓zfa, ↓zf8, ↓zf7, ↓zea, ↓zeb, ↓zf0, ↓z100, ↓zff, ↓z1q, ↓z1q', ↓z12, ↓z12', ↓z2a, ↓z2a', ↓z1c, ↓z7, ↓z15, ↓z21, ↓ze, ↓z19, ↓z26, ↓z3, ↓zc, ↓zd, ↓zf, ↓z27, ↓z8, WO_some, WO_none, IfO_true, IfO_false, z10, za, z0, z1a, z17, z11, z28, z29, z1d, z1f, z23, z1b, ↓z73, ↓z74, ↓z6f, ↓z71, ↓z72, ↓z31, ↓z30, ↓z2f, ↓z2c, ↓z2e, ↓z78, ↓z76, ↓z75, ↓z79, ↓z77, if_ok, if_bl, if_and, if_or, getV, getB, opBin, opCmp, opIdx, opCut, opBi, tru, look, look_r, eqD, eqDs, Z.pure, pures, dep, deps, put_m, put_nx, new_m, new_nx, putIx, putOwn, insOf, lkN, putL, putN, thaw, getO, ixOf, LIM, B64, asI, Z.b2, z6d, z6e, z4a, z4b, z48, z49, z69, z6a, z32, z33, z34, z35, z36, z37, z42, z43, z3e, z3f, z40, z41, z38, z39, z3a, z3b, z3c, z3d, z44, z45, z6b, z6c, z52, z53, z56, z57, z58, z66, z67, z68, z5e, z5f, z60, z59, z5a, z64, z65, z50, z51, z4e, z4f, z54, z55, z61, z62, z63, z5b, z5c, z5d, z4c, z4d, z46, z47, z82, z83, z84, z85, z86, z87, z88, zbc, zbb, zba, t_prp_0_7, z8a, z89, z7a, z7b, z7c, z7d, z7e, z7f, z80, z81, z8b, z8c, z97, za2, zad, zb5, zb6, zb7, zb8, zb9, z8d, z8e, z8f, z90, z91, z92, z93, z94, z95, z96, z98, z99, z9a, z9b, z9c, z9d, z9e, z9f, za0, za1, za3, za4, za5, za6, za7, za8, za9, zaa, zab, zac, zae, zaf, zb0, zb1, zb2, zb3, zb4]
          exact ⟨2, by simp [RE, ss1, ss2, ss3, hx], rfl, rfl⟩
        | cons y r3 =>
          by_cases hy : y ∈ [s_on, s_off]
          case neg =>
            refine WR.mono (tn_n (q + 1) C2 [s_on, s_off] (fun w h => by simp at h; subst h; exact hy)) (fun _ _ h => h.elim) ?_
            rintro _ _ M9 ⟨rfl, rfl⟩
            simp (config := {maxSteps := 4000000, dsimp := false, implicitDefEqProofs := false}) [↓zd2, ↓ze0, ↓zc2, ↓zcc, ↓zc0, ↓zd7, ↓zd9, ↓zc5, ↓zc6, ↓zbd, ↓zda, ↓zd0, ↓zc3, ↓zc4, ↓zd5, ↓zd6, ↓zdb, ↓zbe, ↓zce, ↓zdf, ↓zde, ↓zdd, ↓zdc, ↓ze1, ↓zd3, ↓zd4, ↓zc8, ↓zbf, ↓zc1, ↓zcf, ↓zca, ↓zcb, ↓zd1, ↓zcd, ↓zc9, ↓zd8, ↓zc7, ↓w_compL_nil, ↓w_compL_cons, ↓ze4, ↓ze3, ↓ze2, ↓ze5, ↓z106, ↓z103, ↓z105, ↓z101, ↓z107, ↓z104, ↓z102, ↓ze8, ↓zf5, ↓zfd, ↓zf6, ↓zfb, ↓ze6, ↓zfc, ↓zf4, ↓ze9, ↓ze7, ↓zf2, ↓zed, ↓zf3, ↓zec, ↓zf1, ↓zee, ↓zef, ↓zfe, ↓zf9, ↓zfa, ↓zf8, ↓zf7, ↓zea, ↓zeb, ↓zf0, ↓z100, ↓zff, ↓z1q, ↓z1q', ↓z12, ↓z12', ↓z2a, ↓z2a', ↓z1c, ↓z7, ↓z15, ↓z21, ↓ze, ↓z19, ↓z26, ↓z3, ↓zc, ↓zd, ↓zf, ↓z27, ↓z8, WO_some, WO_none, IfO_true, IfO_false, z10, za, z0, z1a, z17, z11, z28, z29, z1d, z1f, z23, z1b, ↓z73, ↓z74, ↓z6f, ↓z71, ↓z72, ↓z31, ↓z30, ↓z2f, ↓z2c, ↓z2e, ↓z78, ↓z76, ↓z75, ↓z79, ↓z77, if_ok, if_bl, if_and, if_or, getV, getB, opBin, opCmp, opIdx, opCut, opBi, tru, look, look_r, eqD, eqDs, Z.pure, pures, dep, deps, put_m, put_nx, new_m, new_nx, putIx, putOwn, insOf, lkN, putL, putN, thaw, getO, ixOf, LIM, B64, asI, Z.b2, z6d, z6e, z4a, z4b, z48, z49, z69, z6a, z32, z33, z34, z35, z36, z37, z42, z43, z3e, z3f, z40, z41, z38, z39, z3a, z3b, z3c, z3d, z44, z45, z6b, z6c, z52, z53, z56, z57, z58, z66, z67, z68, z5e, z5f, z60, z59, z5a, z64, z65, z50, z51, z4e, z4f, z54, z55, z61, z62, z63, z5b, z5c, z5d, z4c, z4d, z46, z47, z82, z83, z84, z85, z86, z87, z88, zbc, zbb, zba, t_prp_0_7, z8a, z89, z7a, z7b, z7c, z7d, z7e, z7f, z80, z81, z8b, z8c, z97, za2, zad, zb5, zb6, zb7, zb8, zb9, z8d, z8e, z8f, z90, z91, z92, z93, z94, z95, z96, z98, z99, z9a, z9b, z9c, z9d, z9e, z9f, za0, za1, za3, za4, za5, za6, za7, za8, za9, zaa, zab, zac, zae, zaf, zb0, zb1, zb2, zb3, zb4]
            exact ⟨2, by simp only [List.mem_cons, List.not_mem_nil, or_false] at hy; simp [RE, ss1, ss2, ss3, hx, hy], rfl, rfl⟩
          refine (tn_y (q + 1) C2 [s_on, s_off] y rfl hy).go ?_
          rintro _ M4 ⟨rfl, C3⟩
          have hy1 : (if y ∈ [s_on, s_off] then fin 3 r3 (.sw x (decide (y = s_on))) else .inl 2) = fin 3 r3 (.sw x (decide (y = s_on))) := if_pos hy
          have hRE : RE (s_switch :: x :: y :: r3) = fin 3 r3 (.sw x (decide (y = s_on))) := by
            rw [← hy1]; simp [RE, ss1, ss2, ss3, hx]
          have hwd := word_ok (q + 2) C3
          have hm := (C3).h
          cases r3 with
          | cons z r9 =>
            simp (config := {maxSteps := 4000000, dsimp := false, implicitDefEqProofs := false}) [↓zd2, ↓ze0, ↓zc2, ↓zcc, ↓zc0, ↓zd7, ↓zd9, ↓zc5, ↓zc6, ↓zbd, ↓zda, ↓zd0, ↓zc3, ↓zc4, ↓zd5, ↓zd6, ↓zdb, ↓zbe, ↓zce, ↓zdf, ↓zde, ↓zdd, ↓zdc, ↓ze1, ↓zd3, ↓zd4, ↓zc8, ↓zbf, ↓zc1, ↓zcf, ↓zca, ↓zcb, ↓zd1, ↓zcd, ↓zc9, ↓zd8, ↓zc7, ↓w_compL_nil, ↓w_compL_cons, ↓ze4, ↓ze3, ↓ze2, ↓ze5, ↓z106, ↓z103, ↓z105, ↓z101, ↓z107, ↓z104, ↓z102, ↓ze8, ↓zf5, ↓zfd, ↓zf6, ↓zfb, ↓ze6, ↓zfc, ↓zf4, ↓ze9, ↓ze7, ↓zf2, ↓zed, ↓zf3, ↓zec, ↓zf1, ↓zee, ↓zef, ↓zfe, ↓zf9, ↓zfa, ↓zf8, ↓zf7, ↓zea, ↓zeb, ↓zf0, ↓z100, ↓zff, ↓z1q, ↓z1q', ↓z12, ↓z12', ↓z2a, ↓z2a', ↓z1c, ↓z7, ↓z15, ↓z21, ↓ze, ↓z19, ↓z26, ↓z3, ↓zc, ↓zd, ↓zf, ↓z27, ↓z8, WO_some, WO_none, IfO_true, IfO_false, z10, za, z0, z1a, z17, z11, z28, z29, z1d, z1f, z23, z1b, ↓z73, ↓z74, ↓z6f, ↓z71, ↓z72, ↓z31, ↓z30, ↓z2f, ↓z2c, ↓z2e, ↓z78, ↓z76, ↓z75, ↓z79, ↓z77, if_ok, if_bl, if_and, if_or, getV, getB, opBin, opCmp, opIdx, opCut, opBi, tru, look, look_r, eqD, eqDs, Z.pure, pures, dep, deps, put_m, put_nx, new_m, new_nx, putIx, putOwn, insOf, lkN, putL, putN, thaw, getO, ixOf, LIM, B64, asI, Z.b2, z6d, z6e, z4a, z4b, z48, z49, z69, z6a, z32, z33, z34, z35, z36, z37, z42, z43, z3e, z3f, z40, z41, z38, z39, z3a, z3b, z3c, z3d, z44, z45, z6b, z6c, z52, z53, z56, z57, z58, z66, z67, z68, z5e, z5f, z60, z59, z5a, z64, z65, z50, z51, z4e, z4f, z54, z55, z61, z62, z63, z5b, z5c, z5d, z4c, z4d, z46, z47, z82, z83, z84, z85, z86, z87, z88, zbc, zbb, zba, t_prp_0_7, z8a, z89, z7a, z7b, z7c, z7d, z7e, z7f, z80, z81, z8b, z8c, z97, za2, zad, zb5, zb6, zb7, zb8, zb9, z8d, z8e, z8f, z90, z91, z92, z93, z94, z95, z96, z98, z99, z9a, z9b, z9c, z9d, z9e, z9f, za0, za1, za3, za4, za5, za6, za7, za8, za9, zaa, zab, zac, zae, zaf, zb0, zb1, zb2, zb3, zb4, hwd, wdD, CurO, hm]
            exact ⟨3, by simp [hRE, fin], rfl, rfl⟩
          | nil =>
            simp (config := {maxSteps := 4000000, dsimp := false, implicitDefEqProofs := false}) [↓zd2, ↓ze0, ↓zc2, ↓zcc, ↓zc0, ↓zd7, ↓zd9, ↓zc5, ↓zc6, ↓zbd, ↓zda, ↓zd0, ↓zc3, ↓zc4, ↓zd5, ↓zd6, ↓zdb, ↓zbe, ↓zce, ↓zdf, ↓zde, ↓zdd, ↓zdc, ↓ze1, ↓zd3, ↓zd4, ↓zc8, ↓zbf, ↓zc1, ↓zcf, ↓zca, ↓zcb, ↓zd1, ↓zcd, ↓zc9, ↓zd8, ↓zc7, ↓w_compL_nil, ↓w_compL_cons, ↓ze4, ↓ze3, ↓ze2, ↓ze5, ↓z106, ↓z103, ↓z105, ↓z101, ↓z107, ↓z104, ↓z102, ↓ze8, ↓zf5, ↓zfd, ↓zf6, ↓zfb, ↓ze6, ↓zfc, ↓zf4, ↓ze9, ↓ze7, ↓zf2, ↓zed, ↓zf3, ↓zec, ↓zf1, ↓zee, ↓zef, ↓zfe, ↓zf9, ↓zfa, ↓zf8, ↓zf7, ↓zea, ↓zeb, ↓zf0, ↓z100, ↓zff, ↓z1q, ↓z1q', ↓z12, ↓z12', ↓z2a, ↓z2a', ↓z1c, ↓z7, ↓z15, ↓z21, ↓ze, ↓z19, ↓z26, ↓z3, ↓zc, ↓zd, ↓zf, ↓z27, ↓z8, WO_some, WO_none, IfO_true, IfO_false, z10, za, z0, z1a, z17, z11, z28, z29, z1d, z1f, z23, z1b, ↓z73, ↓z74, ↓z6f, ↓z71, ↓z72, ↓z31, ↓z30, ↓z2f, ↓z2c, ↓z2e, ↓z78, ↓z76, ↓z75, ↓z79, ↓z77, if_ok, if_bl, if_and, if_or, getV, getB, opBin, opCmp, opIdx, opCut, opBi, tru, look, look_r, eqD, eqDs, Z.pure, pures, dep, deps, put_m, put_nx, new_m, new_nx, putIx, putOwn, insOf, lkN, putL, putN, thaw, getO, ixOf, LIM, B64, asI, Z.b2, z6d, z6e, z4a, z4b, z48, z49, z69, z6a, z32, z33, z34, z35, z36, z37, z42, z43, z3e, z3f, z40, z41, z38, z39, z3a, z3b, z3c, z3d, z44, z45, z6b, z6c, z52, z53, z56, z57, z58, z66, z67, z68, z5e, z5f, z60, z59, z5a, z64, z65, z50, z51, z4e, z4f, z54, z55, z61, z62, z63, z5b, z5c, z5d, z4c, z4d, z46, z47, z82, z83, z84, z85, z86, z87, z88, zbc, zbb, zba, t_prp_0_7, z8a, z89, z7a, z7b, z7c, z7d, z7e, z7f, z80, z81, z8b, z8c, z97, za2, zad, zb5, zb6, zb7, zb8, zb9, z8d, z8e, z8f, z90, z91, z92, z93, z94, z95, z96, z98, z99, z9a, z9b, z9c, z9d, z9e, z9f, za0, za1, za3, za4, za5, za6, za7, za8, za9, zaa, zab, zac, zae, zaf, zb0, zb1, zb2, zb3, zb4, hwd, wdD, CurO, hm]
            exact ⟨_, by simp [hRE, fin]; rfl, rfl⟩
    · subst hk
      simp (config := {maxSteps := 4000000, dsimp := false, implicitDefEqProofs := false}) [↓zd2, ↓ze0, ↓zc2, ↓zcc, ↓zc0, ↓zd7, ↓zd9, ↓zc5, ↓zc6, ↓zbd, ↓zda, ↓zd0, ↓zc3, ↓zc4, ↓zd5, ↓zd6, ↓zdb, ↓zbe, ↓zce, ↓zdf, ↓zde, ↓zdd, ↓zdc, ↓ze1, ↓zd3, ↓zd4, ↓zc8, ↓zbf, ↓zc1, ↓zcf, ↓zca, ↓zcb, ↓zd1, ↓zcd, ↓zc9, ↓zd8, ↓zc7, ↓w_compL_nil, ↓w_compL_cons, ↓ze4, ↓ze3, ↓ze2, ↓ze5, ↓z106, ↓z103, ↓z105, ↓z101, ↓z107, ↓z104, ↓z102, ↓ze8, ↓zf5, ↓zfd, ↓zf6, ↓zfb, ↓ze6, ↓zfc, ↓zf4, ↓ze9, ↓ze7, ↓zf2, ↓zed, ↓zf3, ↓zec, ↓zf1, ↓zee, ↓zef, ↓zfe, ↓zf9, ↓zfa, ↓zf8, ↓zf7, ↓zea, ↓zeb, ↓zf0, ↓z100, ↓zff, ↓z1q, ↓z1q', ↓z12, ↓z12', ↓z2a, ↓z2a', ↓z1c, ↓z7, ↓z15, ↓z21, ↓ze, ↓z19, ↓z26, ↓z3, ↓zc, ↓zd, ↓zf, ↓z27, ↓z8, WO_some, WO_none, IfO_true, IfO_false, z10, za, z0, z1a, z17, z11, z28, z29, z1d, z1f, z23, z1b, ↓z73, ↓z74, ↓z6f, ↓z71, ↓z72, ↓z31, ↓z30, ↓z2f, ↓z2c, ↓z2e, ↓z78, ↓z76, ↓z75, ↓z79, ↓z77, if_ok, if_bl, if_and, if_or, getV, getB, opBin, opCmp, opIdx, opCut, opBi, tru, look, look_r, eqD, eqDs, Z.pure, pures, dep, deps, put_m, put_nx, new_m, new_nx, putIx, putOwn, insOf, lkN, putL, putN, thaw, getO, ixOf, LIM, B64, asI, Z.b2, z6d, z6e, z4a, z4b, z48, z49, z69, z6a, z32, z33, z34, z35, z36, z37, z42, z43, z3e, z3f, z40, z41, z38, z39, z3a, z3b, z3c, z3d, z44, z45, z6b, z6c, z52, z53, z56, z57, z58, z66, z67, z68, z5e, z5f, z60, z59, z5a, z64, z65, z50, z51, z4e, z4f, z54, z55, z61, z62, z63, z5b, z5c, z5d, z4c, z4d, z46, z47, z82, z83, z84, z85, z86, z87, z88, zbc, zbb, zba, t_prp_0_7, z8a, z89, z7a, z7b, z7c, z7d, z7e, z7f, z80, z81, z8b, z8c, z97, za2, zad, zb5, zb6, zb7, zb8, zb9, z8d, z8e, z8f, z90, z91, z92, z93, z94, z95, z96, z98, z99, z9a, z9b, z9c, z9d, z9e, z9f, za0, za1, za3, za4, za5, za6, za7, za8, za9, zaa, zab, zac, zae, zaf, zb0, zb1, zb2, zb3, zb4, sb1, hm1, CurO, gl_gr]
      cases r with
      | nil =>
        refine WR.mono (nu_n (q + 1) C1 (fun w h => by simp at h)) (fun _ _ h => h.elim) ?_
        rintro _ _ M9 ⟨rfl, rfl⟩
        simp (config := {maxSteps := 4000000, dsimp := false, implicitDefEqProofs := false}) [↓zd2, ↓ze0, ↓zc2, ↓zcc, ↓zc0, ↓zd7, ↓zd9, ↓zc5, ↓zc6, ↓zbd, ↓zda, ↓zd0, ↓zc3, ↓zc4, ↓zd5, ↓zd6, ↓zdb, ↓zbe, ↓zce, ↓zdf, ↓zde, ↓zdd, ↓zdc, ↓ze1, ↓zd3, ↓zd4, ↓zc8, ↓zbf, ↓zc1, ↓zcf, ↓zca, ↓zcb, ↓zd1, ↓zcd, ↓zc9, ↓zd8, ↓zc7, ↓w_compL_nil, ↓w_compL_cons, ↓ze4, ↓ze3, ↓ze2, ↓ze5, ↓z106, ↓z103, ↓z105, ↓z101, ↓z107, ↓z104, ↓z102, ↓ze8, ↓zf5, ↓zfd, ↓zf6, ↓zfb, ↓ze6, ↓zfc, ↓zf4, ↓ze9, ↓ze7, ↓zf2, ↓zed, ↓zf3, ↓zec, ↓zf1, ↓zee, ↓zef, ↓zfe, ↓zf9, ↓zfa, ↓zf8, ↓zf7, ↓zea, ↓zeb, ↓zf0, ↓z100, ↓zff, ↓z1q, ↓z1q', ↓z12, ↓z12', ↓z2a, ↓z2a', ↓z1c, ↓z7, ↓z15, ↓z21, ↓ze, ↓z19, ↓z26, ↓z3, ↓zc, ↓zd, ↓zf, ↓z27, ↓z8, WO_some, WO_none, IfO_true, IfO_false, z10, za, z0, z1a, z17, z11, z28, z29, z1d, z1f, z23, z1b, ↓z73, ↓z74, ↓z6f, ↓z71, ↓z72, ↓z31, ↓z30, ↓z2f, ↓z2c, ↓z2e, ↓z78, ↓z76, ↓z75, ↓z79, ↓z77, if_ok, if_bl, if_and, if_or, getV, getB, opBin, opCmp, opIdx, opCut, opBi, tru, look, look_r, eqD, eqDs, Z.pure, pures, dep, deps, put_m, put_nx, new_m, new_nx, putIx, putOwn, insOf, lkN, putL, putN, thaw, getO, ixOf, LIM, B64, asI, Z.b2, z6d, z6e, z4a, z4b, z48, z49, z69, z6a, z32, z33, z34, z35, z36, z37, z42, z43, z3e, z3f, z40, z41, z38, z39, z3a, z3b, z3c, z3d, z44, z45, z6b, z6c, z52, z53, z56, z57, z58, z66, z67, z68, z5e, z5f, z60, z59, z5a, z64, z65, z50, z51, z4e, z4f, z54, z55, z61, z62, z63, z5b, z5c, z5d, z4c, z4d, z46, z47, z82, z83, z84, z85, z86, z87, z88, zbc, zbb, zba, t_prp_0_7, z8a, z89, z7a, z7b, z7c, z7d, z7e, z7f, z80, z81, z8b, z8c, z97, za2, zad, zb5, zb6, zb7, zb8, zb9, z8d, z8e, z8f, z90, z91, z92, z93, z94, z95, z96, z98, z99, z9a, z9b, z9c, z9d, z9e, z9f, za0, za1, za3, za4, za5, za6, za7, za8, za9, zaa, zab, zac, zae, zaf, zb0, zb1, zb2, zb3, zb4]
        exact ⟨1, rfl, rfl, rfl⟩
      | cons x r2 =>
        have hRE : RE (s_back :: x :: r2) = (match nuW x with
          | none => .inl 1
          | some j => fin 2 r2 (.back j)) := by
          unfold nuW; simp [RE, sb1]
        cases hx : nuW x with
        | none =>
          rw [hx] at hRE
          refine WR.mono (nu_n (q + 1) C1 (fun w h => by simp at h; subst h; exact hx)) (fun _ _ h => h.elim) ?_
          rintro _ _ M9 ⟨rfl, rfl⟩
          simp (config := {maxSteps := 4000000, dsimp := false, implicitDefEqProofs := false}) [↓zd2, ↓ze0, ↓zc2, ↓zcc, ↓zc0, ↓zd7, ↓zd9, ↓zc5, ↓zc6, ↓zbd, ↓zda, ↓zd0, ↓zc3, ↓zc4, ↓zd5, ↓zd6, ↓zdb, ↓zbe, ↓zce, ↓zdf, ↓zde, ↓zdd, ↓zdc, ↓ze1, ↓zd3, ↓zd4, ↓zc8, ↓zbf, ↓zc1, ↓zcf, ↓zca, ↓zcb, ↓zd1, ↓zcd, ↓zc9, ↓zd8, ↓zc7, ↓w_compL_nil, ↓w_compL_cons, ↓ze4, ↓ze3, ↓ze2, ↓ze5, ↓z106, ↓z103, ↓z105, ↓z101, ↓z107, ↓z104, ↓z102, ↓ze8, ↓zf5, ↓zfd, ↓zf6, ↓zfb, ↓ze6, ↓zfc, ↓zf4, ↓ze9, ↓ze7, ↓zf2, ↓zed, ↓zf3, ↓zec, ↓zf1, ↓zee, ↓zef, ↓zfe, ↓zf9, ↓zfa, ↓zf8, ↓zf7, ↓zea, ↓zeb, ↓zf0, ↓z100, ↓zff, ↓z1q, ↓z1q', ↓z12, ↓z12', ↓z2a, ↓z2a', ↓z1c, ↓z7, ↓z15, ↓z21, ↓ze, ↓z19, ↓z26, ↓z3, ↓zc, ↓zd, ↓zf, ↓z27, ↓z8, WO_some, WO_none, IfO_true, IfO_false, z10, za, z0, z1a, z17, z11, z28, z29, z1d, z1f, z23, z1b, ↓z73, ↓z74, ↓z6f, ↓z71, ↓z72, ↓z31, ↓z30, ↓z2f, ↓z2c, ↓z2e, ↓z78, ↓z76, ↓z75, ↓z79, ↓z77, if_ok, if_bl, if_and, if_or, getV, getB, opBin, opCmp, opIdx, opCut, opBi, tru, look, look_r, eqD, eqDs, Z.pure, pures, dep, deps, put_m, put_nx, new_m, new_nx, putIx, putOwn, insOf, lkN, putL, putN, thaw, getO, ixOf, LIM, B64, asI, Z.b2, z6d, z6e, z4a, z4b, z48, z49, z69, z6a, z32, z33, z34, z35, z36, z37, z42, z43, z3e, z3f, z40, z41, z38, z39, z3a, z3b, z3c, z3d, z44, z45, z6b, z6c, z52, z53, z56, z57, z58, z66, z67, z68, z5e, z5f, z60, z59, z5a, z64, z65, z50, z51, z4e, z4f, z54, z55, z61, z62, z63, z5b, z5c, z5d, z4c, z4d, z46, z47, z82, z83, z84, z85, z86, z87, z88, zbc, zbb, zba, t_prp_0_7, z8a, z89, z7a, z7b, z7c, z7d, z7e, z7f, z80, z81, z8b, z8c, z97, za2, zad, zb5, zb6, zb7, zb8, zb9, z8d, z8e, z8f, z90, z91, z92, z93, z94, z95, z96, z98, z99, z9a, z9b, z9c, z9d, z9e, z9f, za0, za1, za3, za4, za5, za6, za7, za8, za9, zaa, zab, zac, zae, zaf, zb0, zb1, zb2, zb3, zb4]
          exact ⟨1, hRE, rfl, rfl⟩
        | some j =>
          rw [hx] at hRE
          refine (nu_y (q + 1) C1 x j rfl hx).go ?_
          rintro _ M3 ⟨rfl, C2⟩
          have hwd := word_ok (q + 2) C2
          have hm := (C2).h
          cases r2 with
          | cons z r9 =>
            simp (config := {maxSteps := 4000000, dsimp := false, implicitDefEqProofs := false}) [↓zd2, ↓ze0, ↓zc2, ↓zcc, ↓zc0, ↓zd7, ↓zd9, ↓zc5, ↓zc6, ↓zbd, ↓zda, ↓zd0, ↓zc3, ↓zc4, ↓zd5, ↓zd6, ↓zdb, ↓zbe, ↓zce, ↓zdf, ↓zde, ↓zdd, ↓zdc, ↓ze1, ↓zd3, ↓zd4, ↓zc8, ↓zbf, ↓zc1, ↓zcf, ↓zca, ↓zcb, ↓zd1, ↓zcd, ↓zc9, ↓zd8, ↓zc7, ↓w_compL_nil, ↓w_compL_cons, ↓ze4, ↓ze3, ↓ze2, ↓ze5, ↓z106, ↓z103, ↓z105, ↓z101, ↓z107, ↓z104, ↓z102, ↓ze8, ↓zf5, ↓zfd, ↓zf6, ↓zfb, ↓ze6, ↓zfc, ↓zf4, ↓ze9, ↓ze7, ↓zf2, ↓zed, ↓zf3, ↓zec, ↓zf1, ↓zee, ↓zef, ↓zfe, ↓zf9, ↓zfa, ↓zf8, ↓zf7, ↓zea, ↓zeb, ↓zf0, ↓z100, ↓zff, ↓z1q, ↓z1q', ↓z12, ↓z12', ↓z2a, ↓z2a', ↓z1c, ↓z7, ↓z15, ↓z21, ↓ze, ↓z19, ↓z26, ↓z3, ↓zc, ↓zd, ↓zf, ↓z27, ↓z8, WO_some, WO_none, IfO_true, IfO_false, z10, za, z0, z1a, z17, z11, z28, z29, z1d, z1f, z23, z1b, ↓z73, ↓z74, ↓z6f, ↓z71, ↓z72, ↓z31, ↓z30, ↓z2f, ↓z2c, ↓z2e, ↓z78, ↓z76, ↓z75, ↓z79, ↓z77, if_ok, if_bl, if_and, if_or, getV, getB, opBin, opCmp, opIdx, opCut, opBi, tru, look, look_r, eqD, eqDs, Z.pure, pures, dep, deps, put_m, put_nx, new_m, new_nx, putIx, putOwn, insOf, lkN, putL, putN, thaw, getO, ixOf, LIM, B64, asI, Z.b2, z6d, z6e, z4a, z4b, z48, z49, z69, z6a, z32, z33, z34, z35, z36, z37, z42, z43, z3e, z3f, z40, z41, z38, z39, z3a, z3b, z3c, z3d, z44, z45, z6b, z6c, z52, z53, z56, z57, z58, z66, z67, z68, z5e, z5f, z60, z59, z5a, z64, z65, z50, z51, z4e, z4f, z54, z55, z61, z62, z63, z5b, z5c, z5d, z4c, z4d, z46, z47, z82, z83, z84, z85, z86, z87, z88, zbc, zbb, zba, t_prp_0_7, z8a, z89, z7a, z7b, z7c, z7d, z7e, z7f, z80, z81, z8b, z8c, z97, za2, zad, zb5, zb6, zb7, zb8, zb9, z8d, z8e, z8f, z90, z91, z92, z93, z94, z95, z96, z98, z99, z9a, z9b, z9c, z9d, z9e, z9f, za0, za1, za3, za4, za5, za6, za7, za8, za9, zaa, zab, zac, zae, zaf, zb0, zb1, zb2, zb3, zb4, hwd, wdD, CurO, hm]
            exact ⟨2, by simp [hRE, fin], rfl, rfl⟩
          | nil =>
            simp (config := {maxSteps := 4000000, dsimp := false, implicitDefEqProofs := false}) [↓zd2, ↓ze0, ↓zc2, ↓zcc, ↓zc0, ↓zd7, ↓zd9, ↓zc5, ↓zc6, ↓zbd, ↓zda, ↓zd0, ↓zc3, ↓zc4, ↓zd5, ↓zd6, ↓zdb, ↓zbe, ↓zce, ↓zdf, ↓zde, ↓zdd, ↓zdc, ↓ze1, ↓zd3, ↓zd4, ↓zc8, ↓zbf, ↓zc1, ↓zcf, ↓zca, ↓zcb, ↓zd1, ↓zcd, ↓zc9, ↓zd8, ↓zc7, ↓w_compL_nil, ↓w_compL_cons, ↓ze4, ↓ze3, ↓ze2, ↓ze5, ↓z106, ↓z103, ↓z105, ↓z101, ↓z107, ↓z104, ↓z102, ↓ze8, ↓zf5, ↓zfd, ↓zf6, ↓zfb, ↓ze6, ↓zfc, ↓zf4, ↓ze9, ↓ze7, ↓zf2, ↓zed, ↓zf3, ↓zec, ↓zf1, ↓zee, ↓zef, ↓zfe, ↓zf9, ↓zfa, ↓zf8, ↓zf7, ↓zea, ↓zeb, ↓zf0, ↓z100, ↓zff, ↓z1q, ↓z1q', ↓z12, ↓z12', ↓z2a, ↓z2a', ↓z1c, ↓z7, ↓z15, ↓z21, ↓ze, ↓z19, ↓z26, ↓z3, ↓zc, ↓zd, ↓zf, ↓z27, ↓z8, WO_some, WO_none, IfO_true, IfO_false, z10, za, z0, z1a, z17, z11, z28, z29, z1d, z1f, z23, z1b, ↓z73, ↓z74, ↓z6f, ↓z71, ↓z72, ↓z31, ↓z30, ↓z2f, ↓z2c, ↓z2e, ↓z78, ↓z76, ↓z75, ↓z79, ↓z77, if_ok, if_bl, if_and, if_or, getV, getB, opBin, opCmp, opIdx, opCut, opBi, tru, look, look_r, eqD, eqDs, Z.pure, pures, dep, deps, put_m, put_nx, new_m, new_nx, putIx, putOwn, insOf, lkN, putL, putN, thaw, getO, ixOf, LIM, B64, asI, Z.b2, z6d, z6e, z4a, z4b, z48, z49, z69, z6a, z32, z33, z34, z35, z36, z37, z42, z43, z3e, z3f, z40, z41, z38, z39, z3a, z3b, z3c, z3d, z44, z45, z6b, z6c, z52, z53, z56, z57, z58, z66, z67, z68, z5e, z5f, z60, z59, z5a, z64, z65, z50, z51, z4e, z4f, z54, z55, z61, z62, z63, z5b, z5c, z5d, z4c, z4d, z46, z47, z82, z83, z84, z85, z86, z87, z88, zbc, zbb, zba, t_prp_0_7, z8a, z89, z7a, z7b, z7c, z7d, z7e, z7f, z80, z81, z8b, z8c, z97, za2, zad, zb5, zb6, zb7, zb8, zb9, z8d, z8e, z8f, z90, z91, z92, z93, z94, z95, z96, z98, z99, z9a, z9b, z9c, z9d, z9e, z9f, za0, za1, za3, za4, za5, za6, za7, za8, za9, zaa, zab, zac, zae, zaf, zb0, zb1, zb2, zb3, zb4, hwd, wdD, CurO, hm]
            exact ⟨_, by simp [hRE, fin]; rfl, rfl⟩
end Q


set_option Elab.async false
set_option linter.all false
set_option autoImplicit false
set_option maxRecDepth 100000
set_option maxHeartbeats 4000000
namespace Q
open PySem L2 Z
theorem hint_ok (q : Nat) (i : Int) (M : Sto) : callA tb.P (Cl (q + 1)) 23 [.int i] M = .ok (.bl true) M := by
  apply WR.eqv
  rw [c_h_law_is_integer, z8]
  unfold b_h_law_is_integer
  simp (config := {maxSteps := 4000000, dsimp := false, implicitDefEqProofs := false}) [↓zd2, ↓ze0, ↓zc2, ↓zcc, ↓zc0, ↓zd7, ↓zd9, ↓zc5, ↓zc6, ↓zbd, ↓zda, ↓zd0, ↓zc3, ↓zc4, ↓zd5, ↓zd6, ↓zdb, ↓zbe, ↓zce, ↓zdf, ↓zde, ↓zdd, ↓zdc, ↓ze1, ↓zd3, ↓zd4, ↓zc8, ↓zbf, ↓zc1, ↓zcf, ↓zca, ↓zcb, ↓zd1, ↓zcd, ↓zc9, ↓zd8, ↓zc7, ↓w_compL_nil, ↓w_compL_cons, ↓ze4, ↓ze3, ↓ze2, ↓ze5, ↓z106, ↓z103, ↓z105, ↓z101, ↓z107, ↓z104, ↓z102, ↓ze8, ↓zf5, ↓zfd, ↓zf6, ↓zfb, ↓ze6, ↓zfc, ↓zf4, ↓ze9, ↓ze7, ↓zf2, ↓zed, ↓zf3, ↓zec, ↓zf1, ↓zee, ↓zef, ↓zfe, ↓zf9, ↓zfa, ↓zf8, ↓zf7, ↓zea, ↓zeb, ↓zf0, ↓z100, ↓zff, ↓z1q, ↓z1q', ↓z12, ↓z12', ↓z2a, ↓z2a', ↓z1c, ↓z7, ↓z15, ↓z21, ↓ze, ↓z19, ↓z26, ↓z3, ↓zc, ↓zd, ↓zf, ↓z27, ↓z8, WO_some, WO_none, IfO_true, IfO_false, z10, za, z0, z1a, z17, z11, z28, z29, z1d, z1f, z23, z1b, ↓z73, ↓z74, ↓z6f, ↓z71, ↓z72, ↓z31, ↓z30, ↓z2f, ↓z2c, ↓z2e, ↓z78, ↓z76, ↓z75, ↓z79, ↓z77, if_ok, if_bl, if_and, if_or, getV, getB, opBin, opCmp, opIdx, opCut, opBi, tru, look, look_r, eqD, eqDs, Z.pure, pures, dep, deps, put_m, put_nx, new_m, new_nx, putIx, putOwn, insOf, lkN, putL, putN, thaw, getO, ixOf, LIM, B64, asI, Z.b2, z6d, z6e, z4a, z4b, z48, z49, z69, z6a, z32, z33, z34, z35, z36, z37, z42, z43, z3e, z3f, z40, z41, z38, z39, z3a, z3b, z3c, z3d, z44, z45, z6b, z6c, z52, z53, z56, z57, z58, z66, z67, z68, z5e, z5f, z60, z59, z5a, z64, z65, z50, z51, z4e, z4f, z54, z55, z61, z62, z63, z5b, z5c, z5d, z4c, z4d, z46, z47, z82, z83, z84, z85, z86, z87, z88, zbc, zbb, zba, t_prp_0_7, z8a, z89, z7a, z7b, z7c, z7d, z7e, z7f, z80, z81, z8b, z8c, z97, za2, zad, zb5, zb6, zb7, zb8, zb9, z8d, z8e, z8f, z90, z91, z92, z93, z94, z95, z96, z98, z99, z9a, z9b, z9c, z9d, z9e, z9f, za0, za1, za3, za4, za5, za6, za7, za8, za9, zaa, zab, zac, zae, zaf, zb0, zb1, zb2, zb3, zb4, tyM, tyOf, isAny]
theorem int_ok (q : Nat) (i : Int) (M : Sto) : callA tb.P (Cl (q + 1)) 11 [.int i] M = .ok (.bl true) M := by
  apply WR.eqv
  rw [c_law_is_integer, z8]
  unfold b_law_is_integer
  simp (config := {maxSteps := 4000000, dsimp := false, implicitDefEqProofs := false}) [↓zd2, ↓ze0, ↓zc2, ↓zcc, ↓zc0, ↓zd7, ↓zd9, ↓zc5, ↓zc6, ↓zbd, ↓zda, ↓zd0, ↓zc3, ↓zc4, ↓zd5, ↓zd6, ↓zdb, ↓zbe, ↓zce, ↓zdf, ↓zde, ↓zdd, ↓zdc, ↓ze1, ↓zd3, ↓zd4, ↓zc8, ↓zbf, ↓zc1, ↓zcf, ↓zca, ↓zcb, ↓zd1, ↓zcd, ↓zc9, ↓zd8, ↓zc7, ↓w_compL_nil, ↓w_compL_cons, ↓ze4, ↓ze3, ↓ze2, ↓ze5, ↓z106, ↓z103, ↓z105, ↓z101, ↓z107, ↓z104, ↓z102, ↓ze8, ↓zf5, ↓zfd, ↓zf6, ↓zfb, ↓ze6, ↓zfc, ↓zf4, ↓ze9, ↓ze7, ↓zf2, ↓zed, ↓zf3, ↓zec, ↓zf1, ↓zee, ↓zef, ↓zfe, ↓zf9, ↓zfa, ↓zf8, ↓zf7, ↓zea, ↓zeb, ↓zf0, ↓z100, ↓zff, ↓z1q, ↓z1q', ↓z12, ↓z12', ↓z2a, ↓z2a', ↓z1c, ↓z7, ↓z15, ↓z21, ↓ze, ↓z19, ↓z26, ↓z3, ↓zc, ↓zd, ↓zf, ↓z27, ↓z8, WO_some, WO_none, IfO_true, IfO_false, z10, za, z0, z1a, z17, z11, z28, z29, z1d, z1f, z23, z1b, ↓z73, ↓z74, ↓z6f, ↓z71, ↓z72, ↓z31, ↓z30, ↓z2f, ↓z2c, ↓z2e, ↓z78, ↓z76, ↓z75, ↓z79, ↓z77, if_ok, if_bl, if_and, if_or, getV, getB, opBin, opCmp, opIdx, opCut, opBi, tru, look, look_r, eqD, eqDs, Z.pure, pures, dep, deps, put_m, put_nx, new_m, new_nx, putIx, putOwn, insOf, lkN, putL, putN, thaw, getO, ixOf, LIM, B64, asI, Z.b2, z6d, z6e, z4a, z4b, z48, z49, z69, z6a, z32, z33, z34, z35, z36, z37, z42, z43, z3e, z3f, z40, z41, z38, z39, z3a, z3b, z3c, z3d, z44, z45, z6b, z6c, z52, z53, z56, z57, z58, z66, z67, z68, z5e, z5f, z60, z59, z5a, z64, z65, z50, z51, z4e, z4f, z54, z55, z61, z62, z63, z5b, z5c, z5d, z4c, z4d, z46, z47, z82, z83, z84, z85, z86, z87, z88, zbc, zbb, zba, t_prp_0_7, z8a, z89, z7a, z7b, z7c, z7d, z7e, z7f, z80, z81, z8b, z8c, z97, za2, zad, zb5, zb6, zb7, zb8, zb9, z8d, z8e, z8f, z90, z91, z92, z93, z94, z95, z96, z98, z99, z9a, z9b, z9c, z9d, z9e, z9f, za0, za1, za3, za4, za5, za6, za7, za8, za9, zaa, zab, zac, zae, zaf, zb0, zb1, zb2, zb3, zb4, tyM, tyOf, isAny]
theorem refused_ok (q : Nat) (l : W) (hl : l.length ≤ 900) (n : Nat) (h : RL l = .inl n) (M : Sto) : WR (fun v _ => v = .bl true) nX (callA tb.P (Cl (q + 5)) 21 [.str l, .int n] M) := by
  rw [c_law_refused, z8]
  unfold b_law_refused
  rw [zff, z1c, z2b]
  simp (config := {maxSteps := 4000000, dsimp := false, implicitDefEqProofs := false}) [↓zd2, ↓ze0, ↓zc2, ↓zcc, ↓zc0, ↓zd7, ↓zd9, ↓zc5, ↓zc6, ↓zbd, ↓zda, ↓zd0, ↓zc3, ↓zc4, ↓zd5, ↓zd6, ↓zdb, ↓zbe, ↓zce, ↓zdf, ↓zde, ↓zdd, ↓zdc, ↓ze1, ↓zd3, ↓zd4, ↓zc8, ↓zbf, ↓zc1, ↓zcf, ↓zca, ↓zcb, ↓zd1, ↓zcd, ↓zc9, ↓zd8, ↓zc7, ↓w_compL_nil, ↓w_compL_cons, ↓ze4, ↓ze3, ↓ze2, ↓ze5, ↓z106, ↓z103, ↓z105, ↓z101, ↓z107, ↓z104, ↓z102, ↓ze8, ↓zf5, ↓zfd, ↓zf6, ↓zfb, ↓ze6, ↓zfc, ↓zf4, ↓ze9, ↓ze7, ↓zf2, ↓zed, ↓zf3, ↓zec, ↓zf1, ↓zee, ↓zef, ↓zfe, ↓zf9, ↓zfa, ↓zf8, ↓zf7, ↓zea, ↓zeb, ↓zf0, ↓z100, ↓zff, ↓z1q, ↓z1q', ↓z12, ↓z12', ↓z2a, ↓z2a', ↓z1c, ↓z7, ↓z15, ↓z21, ↓ze, ↓z19, ↓z26, ↓z3, ↓zc, ↓zd, ↓zf, ↓z27, ↓z8, WO_some, WO_none, IfO_true, IfO_false, z10, za, z0, z1a, z17, z11, z28, z29, z1d, z1f, z23, z1b, ↓z73, ↓z74, ↓z6f, ↓z71, ↓z72, ↓z31, ↓z30, ↓z2f, ↓z2c, ↓z2e, ↓z78, ↓z76, ↓z75, ↓z79, ↓z77, if_ok, if_bl, if_and, if_or, getV, getB, opBin, opCmp, opIdx, opCut, opBi, tru, look, look_r, eqD, eqDs, Z.pure, pures, dep, deps, put_m, put_nx, new_m, new_nx, putIx, putOwn, insOf, lkN, putL, putN, thaw, getO, ixOf, LIM, B64, asI, Z.b2, z6d, z6e, z4a, z4b, z48, z49, z69, z6a, z32, z33, z34, z35, z36, z37, z42, z43, z3e, z3f, z40, z41, z38, z39, z3a, z3b, z3c, z3d, z44, z45, z6b, z6c, z52, z53, z56, z57, z58, z66, z67, z68, z5e, z5f, z60, z59, z5a, z64, z65, z50, z51, z4e, z4f, z54, z55, z61, z62, z63, z5b, z5c, z5d, z4c, z4d, z46, z47, z82, z83, z84, z85, z86, z87, z88, zbc, zbb, zba, t_prp_0_7, z8a, z89, z7a, z7b, z7c, z7d, z7e, z7f, z80, z81, z8b, z8c, z97, za2, zad, zb5, zb6, zb7, zb8, zb9, z8d, z8e, z8f, z90, z91, z92, z93, z94, z95, z96, z98, z99, z9a, z9b, z9c, z9d, z9e, z9f, za0, za1, za3, za4, za5, za6, za7, za8, za9, zaa, zab, zac, zae, zaf, zb0, zb1, zb2, zb3, zb4]
  have hr := read_ok q l hl M
  rw [h] at hr
  refine WR.mono hr ?_ ?_
  · rintro v M2 ⟨e, h1, _⟩
    cases h1
  · rintro k d M2 ⟨m, h1, rfl, rfl⟩
    cases h1
    have hi := hint_ok (q + 3) (n : Int)
    simp (config := {maxSteps := 4000000, dsimp := false, implicitDefEqProofs := false}) [↓zd2, ↓ze0, ↓zc2, ↓zcc, ↓zc0, ↓zd7, ↓zd9, ↓zc5, ↓zc6, ↓zbd, ↓zda, ↓zd0, ↓zc3, ↓zc4, ↓zd5, ↓zd6, ↓zdb, ↓zbe, ↓zce, ↓zdf, ↓zde, ↓zdd, ↓zdc, ↓ze1, ↓zd3, ↓zd4, ↓zc8, ↓zbf, ↓zc1, ↓zcf, ↓zca, ↓zcb, ↓zd1, ↓zcd, ↓zc9, ↓zd8, ↓zc7, ↓w_compL_nil, ↓w_compL_cons, ↓ze4, ↓ze3, ↓ze2, ↓ze5, ↓z106, ↓z103, ↓z105, ↓z101, ↓z107, ↓z104, ↓z102, ↓ze8, ↓zf5, ↓zfd, ↓zf6, ↓zfb, ↓ze6, ↓zfc, ↓zf4, ↓ze9, ↓ze7, ↓zf2, ↓zed, ↓zf3, ↓zec, ↓zf1, ↓zee, ↓zef, ↓zfe, ↓zf9, ↓zfa, ↓zf8, ↓zf7, ↓zea, ↓zeb, ↓zf0, ↓z100, ↓zff, ↓z1q, ↓z1q', ↓z12, ↓z12', ↓z2a, ↓z2a', ↓z1c, ↓z7, ↓z15, ↓z21, ↓ze, ↓z19, ↓z26, ↓z3, ↓zc, ↓zd, ↓zf, ↓z27, ↓z8, WO_some, WO_none, IfO_true, IfO_false, z10, za, z0, z1a, z17, z11, z28, z29, z1d, z1f, z23, z1b, ↓z73, ↓z74, ↓z6f, ↓z71, ↓z72, ↓z31, ↓z30, ↓z2f, ↓z2c, ↓z2e, ↓z78, ↓z76, ↓z75, ↓z79, ↓z77, if_ok, if_bl, if_and, if_or, getV, getB, opBin, opCmp, opIdx, opCut, opBi, tru, look, look_r, eqD, eqDs, Z.pure, pures, dep, deps, put_m, put_nx, new_m, new_nx, putIx, putOwn, insOf, lkN, putL, putN, thaw, getO, ixOf, LIM, B64, asI, Z.b2, z6d, z6e, z4a, z4b, z48, z49, z69, z6a, z32, z33, z34, z35, z36, z37, z42, z43, z3e, z3f, z40, z41, z38, z39, z3a, z3b, z3c, z3d, z44, z45, z6b, z6c, z52, z53, z56, z57, z58, z66, z67, z68, z5e, z5f, z60, z59, z5a, z64, z65, z50, z51, z4e, z4f, z54, z55, z61, z62, z63, z5b, z5c, z5d, z4c, z4d, z46, z47, z82, z83, z84, z85, z86, z87, z88, zbc, zbb, zba, t_prp_0_7, z8a, z89, z7a, z7b, z7c, z7d, z7e, z7f, z80, z81, z8b, z8c, z97, za2, zad, zb5, zb6, zb7, zb8, zb9, z8d, z8e, z8f, z90, z91, z92, z93, z94, z95, z96, z98, z99, z9a, z9b, z9c, z9d, z9e, z9f, za0, za1, za3, za4, za5, za6, za7, za8, za9, zaa, zab, zac, zae, zaf, zb0, zb1, zb2, zb3, zb4, tK_exc, hK_rt, isAny, hi]
/- numbers as words -/
theorem n10 : strI 0 = [48] ∧ strI 1 = [49] ∧ strI 2 = [50] := ⟨rfl, rfl, rfl⟩
theorem sl2 : ∀ k : Fin 100, (strI (k.val : Int)).length ≤ 2 := by decide +kernel
theorem sl {i : Int} (h0 : 0 ≤ i) (h1 : i < 100) : (strI i).length ≤ 2 := by
  have := sl2 ⟨i.toNat, by omega⟩
  have e : ((i.toNat : Nat) : Int) = i := by omega
  rwa [show ((⟨i.toNat, by omega⟩ : Fin 100).val : Int) = i from e] at this
theorem lg' {i : Int} (h0 : 0 ≤ i) (h1 : i < 1000000) : i.natAbs.log2 < 1920 := by
  have h2 : i.natAbs < 1000000 := by omega
  by_cases hz : i.natAbs = 0
  · rw [hz]; decide
  · have := Nat.log2_lt hz |>.mpr (show i.natAbs < 2 ^ 20 by omega)
    omega
def nm (j : Int) : W := [110] ++ strI j
def onm : W → Prop := fun n => n = [110, 48] ∨ n = [110, 49] ∨ n = [110, 50]
theorem nm_on {j : Int} (h0 : 0 ≤ j) (h1 : j < 3) : onm ([110] ++ strI j) := by
  have : j = 0 ∨ j = 1 ∨ j = 2 := by omega
  rcases this with h | h | h <;> subst h
  · exact .inl rfl
  · exact .inr (.inl rfl)
  · exact .inr (.inr rfl)
/-- a piece -/
def PP (v : D) (M M' : Sto) : Prop := M' = M ∧ ∃ s n t : W, v = .tup [.str s, .str n, .str t] ∧ s ∈ sortW ∧ onm n ∧ t.length ≤ 200
theorem PP.mk {M : Sto} {s n t : W} (h1 : s ∈ sortW) (h2 : onm n) (h3 : t.length ≤ 200) : PP (.tup [.str s, .str n, .str t]) M M := ⟨rfl, s, n, t, rfl, h1, h2, h3⟩
theorem so1 : s_option ∈ sortW := by simp [sortW]
theorem so2 : s_var ∈ sortW := by simp [sortW]
theorem so3 : s_round ∈ sortW := by simp [sortW]
theorem option_ok (q : Nat) (j c : Int) (h0 : 0 ≤ j) (h1 : j < 3) (M : Sto) : WR (fun v M' => PP v M M') nX (callA tb.P (Cl (q + 1)) 12 [.int j, .int c] M) := by
  rw [c_law_option, z8]
  unfold b_law_option
  have l1 := sl h0 (by omega)
  have g1 := lg' h0 (by omega)
  have on : onm (110 :: strI j) := nm_on h0 h1
  have hm : c % 2 = 0 ∨ c % 2 = 1 := by omega
  rcases hm with h | h
  · simp (config := {maxSteps := 4000000, dsimp := false, implicitDefEqProofs := false}) [↓zd2, ↓ze0, ↓zc2, ↓zcc, ↓zc0, ↓zd7, ↓zd9, ↓zc5, ↓zc6, ↓zbd, ↓zda, ↓zd0, ↓zc3, ↓zc4, ↓zd5, ↓zd6, ↓zdb, ↓zbe, ↓zce, ↓zdf, ↓zde, ↓zdd, ↓zdc, ↓ze1, ↓zd3, ↓zd4, ↓zc8, ↓zbf, ↓zc1, ↓zcf, ↓zca, ↓zcb, ↓zd1, ↓zcd, ↓zc9, ↓zd8, ↓zc7, ↓w_compL_nil, ↓w_compL_cons, ↓ze4, ↓ze3, ↓ze2, ↓ze5, ↓z106, ↓z103, ↓z105, ↓z101, ↓z107, ↓z104, ↓z102, ↓ze8, ↓zf5, ↓zfd, ↓zf6, ↓zfb, ↓ze6, ↓zfc, ↓zf4, ↓ze9, ↓ze7, ↓zf2, ↓zed, ↓zf3, ↓zec, ↓zf1, ↓zee, ↓zef, ↓zfe, ↓zf9, ↓zfa, ↓zf8, ↓zf7, ↓zea, ↓zeb, ↓zf0, ↓z100, ↓zff, ↓z1q, ↓z1q', ↓z12, ↓z12', ↓z2a, ↓z2a', ↓z1c, ↓z7, ↓z15, ↓z21, ↓ze, ↓z19, ↓z26, ↓z3, ↓zc, ↓zd, ↓zf, ↓z27, ↓z8, WO_some, WO_none, IfO_true, IfO_false, z10, za, z0, z1a, z17, z11, z28, z29, z1d, z1f, z23, z1b, ↓z73, ↓z74, ↓z6f, ↓z71, ↓z72, ↓z31, ↓z30, ↓z2f, ↓z2c, ↓z2e, ↓z78, ↓z76, ↓z75, ↓z79, ↓z77, if_ok, if_bl, if_and, if_or, getV, getB, opBin, opCmp, opIdx, opCut, opBi, tru, look, look_r, eqD, eqDs, Z.pure, pures, dep, deps, put_m, put_nx, new_m, new_nx, putIx, putOwn, insOf, lkN, putL, putN, thaw, getO, ixOf, LIM, B64, asI, Z.b2, z6d, z6e, z4a, z4b, z48, z49, z69, z6a, z32, z33, z34, z35, z36, z37, z42, z43, z3e, z3f, z40, z41, z38, z39, z3a, z3b, z3c, z3d, z44, z45, z6b, z6c, z52, z53, z56, z57, z58, z66, z67, z68, z5e, z5f, z60, z59, z5a, z64, z65, z50, z51, z4e, z4f, z54, z55, z61, z62, z63, z5b, z5c, z5d, z4c, z4d, z46, z47, z82, z83, z84, z85, z86, z87, z88, zbc, zbb, zba, t_prp_0_7, z8a, z89, z7a, z7b, z7c, z7d, z7e, z7f, z80, z81, z8b, z8c, z97, za2, zad, zb5, zb6, zb7, zb8, zb9, z8d, z8e, z8f, z90, z91, z92, z93, z94, z95, z96, z98, z99, z9a, z9b, z9c, z9d, z9e, z9f, za0, za1, za3, za4, za5, za6, za7, za8, za9, zaa, zab, zac, zae, zaf, zb0, zb1, zb2, zb3, zb4, g1, s_option_n, s_n, s__, s_off, s_on, h]
    repeat refine IfO.mk (by omega) ?_
    exact PP.mk so1 on (by simp; omega)
  · simp (config := {maxSteps := 4000000, dsimp := false, implicitDefEqProofs := false}) [↓zd2, ↓ze0, ↓zc2, ↓zcc, ↓zc0, ↓zd7, ↓zd9, ↓zc5, ↓zc6, ↓zbd, ↓zda, ↓zd0, ↓zc3, ↓zc4, ↓zd5, ↓zd6, ↓zdb, ↓zbe, ↓zce, ↓zdf, ↓zde, ↓zdd, ↓zdc, ↓ze1, ↓zd3, ↓zd4, ↓zc8, ↓zbf, ↓zc1, ↓zcf, ↓zca, ↓zcb, ↓zd1, ↓zcd, ↓zc9, ↓zd8, ↓zc7, ↓w_compL_nil, ↓w_compL_cons, ↓ze4, ↓ze3, ↓ze2, ↓ze5, ↓z106, ↓z103, ↓z105, ↓z101, ↓z107, ↓z104, ↓z102, ↓ze8, ↓zf5, ↓zfd, ↓zf6, ↓zfb, ↓ze6, ↓zfc, ↓zf4, ↓ze9, ↓ze7, ↓zf2, ↓zed, ↓zf3, ↓zec, ↓zf1, ↓zee, ↓zef, ↓zfe, ↓zf9, ↓zfa, ↓zf8, ↓zf7, ↓zea, ↓zeb, ↓zf0, ↓z100, ↓zff, ↓z1q, ↓z1q', ↓z12, ↓z12', ↓z2a, ↓z2a', ↓z1c, ↓z7, ↓z15, ↓z21, ↓ze, ↓z19, ↓z26, ↓z3, ↓zc, ↓zd, ↓zf, ↓z27, ↓z8, WO_some, WO_none, IfO_true, IfO_false, z10, za, z0, z1a, z17, z11, z28, z29, z1d, z1f, z23, z1b, ↓z73, ↓z74, ↓z6f, ↓z71, ↓z72, ↓z31, ↓z30, ↓z2f, ↓z2c, ↓z2e, ↓z78, ↓z76, ↓z75, ↓z79, ↓z77, if_ok, if_bl, if_and, if_or, getV, getB, opBin, opCmp, opIdx, opCut, opBi, tru, look, look_r, eqD, eqDs, Z.pure, pures, dep, deps, put_m, put_nx, new_m, new_nx, putIx, putOwn, insOf, lkN, putL, putN, thaw, getO, ixOf, LIM, B64, asI, Z.b2, z6d, z6e, z4a, z4b, z48, z49, z69, z6a, z32, z33, z34, z35, z36, z37, z42, z43, z3e, z3f, z40, z41, z38, z39, z3a, z3b, z3c, z3d, z44, z45, z6b, z6c, z52, z53, z56, z57, z58, z66, z67, z68, z5e, z5f, z60, z59, z5a, z64, z65, z50, z51, z4e, z4f, z54, z55, z61, z62, z63, z5b, z5c, z5d, z4c, z4d, z46, z47, z82, z83, z84, z85, z86, z87, z88, zbc, zbb, zba, t_prp_0_7, z8a, z89, z7a, z7b, z7c, z7d, z7e, z7f, z80, z81, z8b, z8c, z97, za2, zad, zb5, zb6, zb7, zb8, zb9, z8d, z8e, z8f, z90, z91, z92, z93, z94, z95, z96, z98, z99, z9a, z9b, z9c, z9d, z9e, z9f, za0, za1, za3, za4, za5, za6, za7, za8, za9, zaa, zab, zac, zae, zaf, zb0, zb1, zb2, zb3, zb4, g1, s_option_n, s_n, s__, s_off, s_on, h]
    repeat refine IfO.mk (by omega) ?_
    exact PP.mk so1 on (by simp; omega)
theorem variable_ok (q : Nat) (j c : Int) (h0 : 0 ≤ j) (h1 : j < 3) (M : Sto) : WR (fun v M' => PP v M M') nX (callA tb.P (Cl (q + 1)) 13 [.int j, .int c] M) := by
  rw [c_law_variable, z8]
  unfold b_law_variable
  have l1 := sl h0 (by omega)
  have g1 := lg' h0 (by omega)
  have on : onm (110 :: strI j) := nm_on h0 h1
  obtain ⟨d, hd⟩ : ∃ d, d = 1 + c % 9 := ⟨_, rfl⟩
  have d0 : 0 ≤ d := by omega
  have d1 : d < 100 := by omega
  have l2 := sl d0 d1
  have g2 := lg' d0 (by omega)
  rw [hd] at l2 g2
  simp (config := {maxSteps := 4000000, dsimp := false, implicitDefEqProofs := false}) [↓zd2, ↓ze0, ↓zc2, ↓zcc, ↓zc0, ↓zd7, ↓zd9, ↓zc5, ↓zc6, ↓zbd, ↓zda, ↓zd0, ↓zc3, ↓zc4, ↓zd5, ↓zd6, ↓zdb, ↓zbe, ↓zce, ↓zdf, ↓zde, ↓zdd, ↓zdc, ↓ze1, ↓zd3, ↓zd4, ↓zc8, ↓zbf, ↓zc1, ↓zcf, ↓zca, ↓zcb, ↓zd1, ↓zcd, ↓zc9, ↓zd8, ↓zc7, ↓w_compL_nil, ↓w_compL_cons, ↓ze4, ↓ze3, ↓ze2, ↓ze5, ↓z106, ↓z103, ↓z105, ↓z101, ↓z107, ↓z104, ↓z102, ↓ze8, ↓zf5, ↓zfd, ↓zf6, ↓zfb, ↓ze6, ↓zfc, ↓zf4, ↓ze9, ↓ze7, ↓zf2, ↓zed, ↓zf3, ↓zec, ↓zf1, ↓zee, ↓zef, ↓zfe, ↓zf9, ↓zfa, ↓zf8, ↓zf7, ↓zea, ↓zeb, ↓zf0, ↓z100, ↓zff, ↓z1q, ↓z1q', ↓z12, ↓z12', ↓z2a, ↓z2a', ↓z1c, ↓z7, ↓z15, ↓z21, ↓ze, ↓z19, ↓z26, ↓z3, ↓zc, ↓zd, ↓zf, ↓z27, ↓z8, WO_some, WO_none, IfO_true, IfO_false, z10, za, z0, z1a, z17, z11, z28, z29, z1d, z1f, z23, z1b, ↓z73, ↓z74, ↓z6f, ↓z71, ↓z72, ↓z31, ↓z30, ↓z2f, ↓z2c, ↓z2e, ↓z78, ↓z76, ↓z75, ↓z79, ↓z77, if_ok, if_bl, if_and, if_or, getV, getB, opBin, opCmp, opIdx, opCut, opBi, tru, look, look_r, eqD, eqDs, Z.pure, pures, dep, deps, put_m, put_nx, new_m, new_nx, putIx, putOwn, insOf, lkN, putL, putN, thaw, getO, ixOf, LIM, B64, asI, Z.b2, z6d, z6e, z4a, z4b, z48, z49, z69, z6a, z32, z33, z34, z35, z36, z37, z42, z43, z3e, z3f, z40, z41, z38, z39, z3a, z3b, z3c, z3d, z44, z45, z6b, z6c, z52, z53, z56, z57, z58, z66, z67, z68, z5e, z5f, z60, z59, z5a, z64, z65, z50, z51, z4e, z4f, z54, z55, z61, z62, z63, z5b, z5c, z5d, z4c, z4d, z46, z47, z82, z83, z84, z85, z86, z87, z88, zbc, zbb, zba, t_prp_0_7, z8a, z89, z7a, z7b, z7c, z7d, z7e, z7f, z80, z81, z8b, z8c, z97, za2, zad, zb5, zb6, zb7, zb8, zb9, z8d, z8e, z8f, z90, z91, z92, z93, z94, z95, z96, z98, z99, z9a, z9b, z9c, z9d, z9e, z9f, za0, za1, za3, za4, za5, za6, za7, za8, za9, zaa, zab, zac, zae, zaf, zb0, zb1, zb2, zb3, zb4, g1, s_var_n, s_n, s__, g2]
  repeat refine IfO.mk (by omega) ?_
  exact PP.mk so2 on (by simp; omega)
theorem round_ok (q : Nat) (j c : Int) (h0 : 0 ≤ j) (h1 : j < 3) (M : Sto) : WR (fun v M' => PP v M M') nX (callA tb.P (Cl (q + 1)) 14 [.int j, .int c] M) := by
  rw [c_law_round, z8]
  unfold b_law_round
  have l1 := sl h0 (by omega)
  have g1 := lg' h0 (by omega)
  have on : onm (110 :: strI j) := nm_on h0 h1
  have l2 := sl (i := c % 10) (by omega) (by omega)
  have g2 := lg' (i := c % 10) (by omega) (by omega)
  have l3 := sl (i := c / 30 % 3) (by omega) (by omega)
  have g3 := lg' (i := c / 30 % 3) (by omega) (by omega)
  have l4 := sl (i := c / 30 % 2) (by omega) (by omega)
  have g4 := lg' (i := c / 30 % 2) (by omega) (by omega)
  have l5 := sl (i := c / 60 % 10) (by omega) (by omega)
  have g5 := lg' (i := c / 60 % 10) (by omega) (by omega)
  have l6 := sl (i := c / 1800 % 5) (by omega) (by omega)
  have g6 := lg' (i := c / 1800 % 5) (by omega) (by omega)
  have h10 : c / 10 % 3 = 0 ∨ c / 10 % 3 = 1 ∨ c / 10 % 3 = 2 := by omega
  by_cases h600 : c / 600 % 3 = 1
  · rcases h10 with h | h | h
    · simp (config := {maxSteps := 4000000, dsimp := false, implicitDefEqProofs := false}) [↓zd2, ↓ze0, ↓zc2, ↓zcc, ↓zc0, ↓zd7, ↓zd9, ↓zc5, ↓zc6, ↓zbd, ↓zda, ↓zd0, ↓zc3, ↓zc4, ↓zd5, ↓zd6, ↓zdb, ↓zbe, ↓zce, ↓zdf, ↓zde, ↓zdd, ↓zdc, ↓ze1, ↓zd3, ↓zd4, ↓zc8, ↓zbf, ↓zc1, ↓zcf, ↓zca, ↓zcb, ↓zd1, ↓zcd, ↓zc9, ↓zd8, ↓zc7, ↓w_compL_nil, ↓w_compL_cons, ↓ze4, ↓ze3, ↓ze2, ↓ze5, ↓z106, ↓z103, ↓z105, ↓z101, ↓z107, ↓z104, ↓z102, ↓ze8, ↓zf5, ↓zfd, ↓zf6, ↓zfb, ↓ze6, ↓zfc, ↓zf4, ↓ze9, ↓ze7, ↓zf2, ↓zed, ↓zf3, ↓zec, ↓zf1, ↓zee, ↓zef, ↓zfe, ↓zf9, ↓zfa, ↓zf8, ↓zf7, ↓zea, ↓zeb, ↓zf0, ↓z100, ↓zff, ↓z1q, ↓z1q', ↓z12, ↓z12', ↓z2a, ↓z2a', ↓z1c, ↓z7, ↓z15, ↓z21, ↓ze, ↓z19, ↓z26, ↓z3, ↓zc, ↓zd, ↓zf, ↓z27, ↓z8, WO_some, WO_none, IfO_true, IfO_false, z10, za, z0, z1a, z17, z11, z28, z29, z1d, z1f, z23, z1b, ↓z73, ↓z74, ↓z6f, ↓z71, ↓z72, ↓z31, ↓z30, ↓z2f, ↓z2c, ↓z2e, ↓z78, ↓z76, ↓z75, ↓z79, ↓z77, if_ok, if_bl, if_and, if_or, getV, getB, opBin, opCmp, opIdx, opCut, opBi, tru, look, look_r, eqD, eqDs, Z.pure, pures, dep, deps, put_m, put_nx, new_m, new_nx, putIx, putOwn, insOf, lkN, putL, putN, thaw, getO, ixOf, LIM, B64, asI, Z.b2, z6d, z6e, z4a, z4b, z48, z49, z69, z6a, z32, z33, z34, z35, z36, z37, z42, z43, z3e, z3f, z40, z41, z38, z39, z3a, z3b, z3c, z3d, z44, z45, z6b, z6c, z52, z53, z56, z57, z58, z66, z67, z68, z5e, z5f, z60, z59, z5a, z64, z65, z50, z51, z4e, z4f, z54, z55, z61, z62, z63, z5b, z5c, z5d, z4c, z4d, z46, z47, z82, z83, z84, z85, z86, z87, z88, zbc, zbb, zba, t_prp_0_7, z8a, z89, z7a, z7b, z7c, z7d, z7e, z7f, z80, z81, z8b, z8c, z97, za2, zad, zb5, zb6, zb7, zb8, zb9, z8d, z8e, z8f, z90, z91, z92, z93, z94, z95, z96, z98, z99, z9a, z9b, z9c, z9d, z9e, z9f, za0, za1, za3, za4, za5, za6, za7, za8, za9, zaa, zab, zac, zae, zaf, zb0, zb1, zb2, zb3, zb4, g1, g2, g3, g4, g5, g6, h, h600, s_round_n, s__pay_, s__pay_n, s__when_n, s__take_, s__end, s__show_both_, s_n]
      repeat refine IfO.mk (by omega) ?_
      exact PP.mk so3 on (by simp; omega)
    · simp (config := {maxSteps := 4000000, dsimp := false, implicitDefEqProofs := false}) [↓zd2, ↓ze0, ↓zc2, ↓zcc, ↓zc0, ↓zd7, ↓zd9, ↓zc5, ↓zc6, ↓zbd, ↓zda, ↓zd0, ↓zc3, ↓zc4, ↓zd5, ↓zd6, ↓zdb, ↓zbe, ↓zce, ↓zdf, ↓zde, ↓zdd, ↓zdc, ↓ze1, ↓zd3, ↓zd4, ↓zc8, ↓zbf, ↓zc1, ↓zcf, ↓zca, ↓zcb, ↓zd1, ↓zcd, ↓zc9, ↓zd8, ↓zc7, ↓w_compL_nil, ↓w_compL_cons, ↓ze4, ↓ze3, ↓ze2, ↓ze5, ↓z106, ↓z103, ↓z105, ↓z101, ↓z107, ↓z104, ↓z102, ↓ze8, ↓zf5, ↓zfd, ↓zf6, ↓zfb, ↓ze6, ↓zfc, ↓zf4, ↓ze9, ↓ze7, ↓zf2, ↓zed, ↓zf3, ↓zec, ↓zf1, ↓zee, ↓zef, ↓zfe, ↓zf9, ↓zfa, ↓zf8, ↓zf7, ↓zea, ↓zeb, ↓zf0, ↓z100, ↓zff, ↓z1q, ↓z1q', ↓z12, ↓z12', ↓z2a, ↓z2a', ↓z1c, ↓z7, ↓z15, ↓z21, ↓ze, ↓z19, ↓z26, ↓z3, ↓zc, ↓zd, ↓zf, ↓z27, ↓z8, WO_some, WO_none, IfO_true, IfO_false, z10, za, z0, z1a, z17, z11, z28, z29, z1d, z1f, z23, z1b, ↓z73, ↓z74, ↓z6f, ↓z71, ↓z72, ↓z31, ↓z30, ↓z2f, ↓z2c, ↓z2e, ↓z78, ↓z76, ↓z75, ↓z79, ↓z77, if_ok, if_bl, if_and, if_or, getV, getB, opBin, opCmp, opIdx, opCut, opBi, tru, look, look_r, eqD, eqDs, Z.pure, pures, dep, deps, put_m, put_nx, new_m, new_nx, putIx, putOwn, insOf, lkN, putL, putN, thaw, getO, ixOf, LIM, B64, asI, Z.b2, z6d, z6e, z4a, z4b, z48, z49, z69, z6a, z32, z33, z34, z35, z36, z37, z42, z43, z3e, z3f, z40, z41, z38, z39, z3a, z3b, z3c, z3d, z44, z45, z6b, z6c, z52, z53, z56, z57, z58, z66, z67, z68, z5e, z5f, z60, z59, z5a, z64, z65, z50, z51, z4e, z4f, z54, z55, z61, z62, z63, z5b, z5c, z5d, z4c, z4d, z46, z47, z82, z83, z84, z85, z86, z87, z88, zbc, zbb, zba, t_prp_0_7, z8a, z89, z7a, z7b, z7c, z7d, z7e, z7f, z80, z81, z8b, z8c, z97, za2, zad, zb5, zb6, zb7, zb8, zb9, z8d, z8e, z8f, z90, z91, z92, z93, z94, z95, z96, z98, z99, z9a, z9b, z9c, z9d, z9e, z9f, za0, za1, za3, za4, za5, za6, za7, za8, za9, zaa, zab, zac, zae, zaf, zb0, zb1, zb2, zb3, zb4, g1, g2, g3, g4, g5, g6, h, h600, s_round_n, s__pay_, s__pay_n, s__when_n, s__take_, s__end, s__show_both_, s_n]
      repeat refine IfO.mk (by omega) ?_
      exact PP.mk so3 on (by simp; omega)
    · simp (config := {maxSteps := 4000000, dsimp := false, implicitDefEqProofs := false}) [↓zd2, ↓ze0, ↓zc2, ↓zcc, ↓zc0, ↓zd7, ↓zd9, ↓zc5, ↓zc6, ↓zbd, ↓zda, ↓zd0, ↓zc3, ↓zc4, ↓zd5, ↓zd6, ↓zdb, ↓zbe, ↓zce, ↓zdf, ↓zde, ↓zdd, ↓zdc, ↓ze1, ↓zd3, ↓zd4, ↓zc8, ↓zbf, ↓zc1, ↓zcf, ↓zca, ↓zcb, ↓zd1, ↓zcd, ↓zc9, ↓zd8, ↓zc7, ↓w_compL_nil, ↓w_compL_cons, ↓ze4, ↓ze3, ↓ze2, ↓ze5, ↓z106, ↓z103, ↓z105, ↓z101, ↓z107, ↓z104, ↓z102, ↓ze8, ↓zf5, ↓zfd, ↓zf6, ↓zfb, ↓ze6, ↓zfc, ↓zf4, ↓ze9, ↓ze7, ↓zf2, ↓zed, ↓zf3, ↓zec, ↓zf1, ↓zee, ↓zef, ↓zfe, ↓zf9, ↓zfa, ↓zf8, ↓zf7, ↓zea, ↓zeb, ↓zf0, ↓z100, ↓zff, ↓z1q, ↓z1q', ↓z12, ↓z12', ↓z2a, ↓z2a', ↓z1c, ↓z7, ↓z15, ↓z21, ↓ze, ↓z19, ↓z26, ↓z3, ↓zc, ↓zd, ↓zf, ↓z27, ↓z8, WO_some, WO_none, IfO_true, IfO_false, z10, za, z0, z1a, z17, z11, z28, z29, z1d, z1f, z23, z1b, ↓z73, ↓z74, ↓z6f, ↓z71, ↓z72, ↓z31, ↓z30, ↓z2f, ↓z2c, ↓z2e, ↓z78, ↓z76, ↓z75, ↓z79, ↓z77, if_ok, if_bl, if_and, if_or, getV, getB, opBin, opCmp, opIdx, opCut, opBi, tru, look, look_r, eqD, eqDs, Z.pure, pures, dep, deps, put_m, put_nx, new_m, new_nx, putIx, putOwn, insOf, lkN, putL, putN, thaw, getO, ixOf, LIM, B64, asI, Z.b2, z6d, z6e, z4a, z4b, z48, z49, z69, z6a, z32, z33, z34, z35, z36, z37, z42, z43, z3e, z3f, z40, z41, z38, z39, z3a, z3b, z3c, z3d, z44, z45, z6b, z6c, z52, z53, z56, z57, z58, z66, z67, z68, z5e, z5f, z60, z59, z5a, z64, z65, z50, z51, z4e, z4f, z54, z55, z61, z62, z63, z5b, z5c, z5d, z4c, z4d, z46, z47, z82, z83, z84, z85, z86, z87, z88, zbc, zbb, zba, t_prp_0_7, z8a, z89, z7a, z7b, z7c, z7d, z7e, z7f, z80, z81, z8b, z8c, z97, za2, zad, zb5, zb6, zb7, zb8, zb9, z8d, z8e, z8f, z90, z91, z92, z93, z94, z95, z96, z98, z99, z9a, z9b, z9c, z9d, z9e, z9f, za0, za1, za3, za4, za5, za6, za7, za8, za9, zaa, zab, zac, zae, zaf, zb0, zb1, zb2, zb3, zb4, g1, g2, g3, g4, g5, g6, h, h600, s_round_n, s__pay_, s__pay_n, s__when_n, s__take_, s__end, s__show_both_, s_n]
      repeat refine IfO.mk (by omega) ?_
      exact PP.mk so3 on (by simp; omega)
  · rcases h10 with h | h | h
    · simp (config := {maxSteps := 4000000, dsimp := false, implicitDefEqProofs := false}) [↓zd2, ↓ze0, ↓zc2, ↓zcc, ↓zc0, ↓zd7, ↓zd9, ↓zc5, ↓zc6, ↓zbd, ↓zda, ↓zd0, ↓zc3, ↓zc4, ↓zd5, ↓zd6, ↓zdb, ↓zbe, ↓zce, ↓zdf, ↓zde, ↓zdd, ↓zdc, ↓ze1, ↓zd3, ↓zd4, ↓zc8, ↓zbf, ↓zc1, ↓zcf, ↓zca, ↓zcb, ↓zd1, ↓zcd, ↓zc9, ↓zd8, ↓zc7, ↓w_compL_nil, ↓w_compL_cons, ↓ze4, ↓ze3, ↓ze2, ↓ze5, ↓z106, ↓z103, ↓z105, ↓z101, ↓z107, ↓z104, ↓z102, ↓ze8, ↓zf5, ↓zfd, ↓zf6, ↓zfb, ↓ze6, ↓zfc, ↓zf4, ↓ze9, ↓ze7, ↓zf2, ↓zed, ↓zf3, ↓zec, ↓zf1, ↓zee, ↓zef, ↓zfe, ↓zf9, ↓zfa, ↓zf8, ↓zf7, ↓zea, ↓zeb, ↓zf0, ↓z100, ↓zff, ↓z1q, ↓z1q', ↓z12, ↓z12', ↓z2a, ↓z2a', ↓z1c, ↓z7, ↓z15, ↓z21, ↓ze, ↓z19, ↓z26, ↓z3, ↓zc, ↓zd, ↓zf, ↓z27, ↓z8, WO_some, WO_none, IfO_true, IfO_false, z10, za, z0, z1a, z17, z11, z28, z29, z1d, z1f, z23, z1b, ↓z73, ↓z74, ↓z6f, ↓z71, ↓z72, ↓z31, ↓z30, ↓z2f, ↓z2c, ↓z2e, ↓z78, ↓z76, ↓z75, ↓z79, ↓z77, if_ok, if_bl, if_and, if_or, getV, getB, opBin, opCmp, opIdx, opCut, opBi, tru, look, look_r, eqD, eqDs, Z.pure, pures, dep, deps, put_m, put_nx, new_m, new_nx, putIx, putOwn, insOf, lkN, putL, putN, thaw, getO, ixOf, LIM, B64, asI, Z.b2, z6d, z6e, z4a, z4b, z48, z49, z69, z6a, z32, z33, z34, z35, z36, z37, z42, z43, z3e, z3f, z40, z41, z38, z39, z3a, z3b, z3c, z3d, z44, z45, z6b, z6c, z52, z53, z56, z57, z58, z66, z67, z68, z5e, z5f, z60, z59, z5a, z64, z65, z50, z51, z4e, z4f, z54, z55, z61, z62, z63, z5b, z5c, z5d, z4c, z4d, z46, z47, z82, z83, z84, z85, z86, z87, z88, zbc, zbb, zba, t_prp_0_7, z8a, z89, z7a, z7b, z7c, z7d, z7e, z7f, z80, z81, z8b, z8c, z97, za2, zad, zb5, zb6, zb7, zb8, zb9, z8d, z8e, z8f, z90, z91, z92, z93, z94, z95, z96, z98, z99, z9a, z9b, z9c, z9d, z9e, z9f, za0, za1, za3, za4, za5, za6, za7, za8, za9, zaa, zab, zac, zae, zaf, zb0, zb1, zb2, zb3, zb4, g1, g2, g3, g4, g5, g6, h, h600, s_round_n, s__pay_, s__pay_n, s__when_n, s__take_, s__end, s__show_both_, s_n]
      repeat refine IfO.mk (by omega) ?_
      exact PP.mk so3 on (by simp; omega)
    · simp (config := {maxSteps := 4000000, dsimp := false, implicitDefEqProofs := false}) [↓zd2, ↓ze0, ↓zc2, ↓zcc, ↓zc0, ↓zd7, ↓zd9, ↓zc5, ↓zc6, ↓zbd, ↓zda, ↓zd0, ↓zc3, ↓zc4, ↓zd5, ↓zd6, ↓zdb, ↓zbe, ↓zce, ↓zdf, ↓zde, ↓zdd, ↓zdc, ↓ze1, ↓zd3, ↓zd4, ↓zc8, ↓zbf, ↓zc1, ↓zcf, ↓zca, ↓zcb, ↓zd1, ↓zcd, ↓zc9, ↓zd8, ↓zc7, ↓w_compL_nil, ↓w_compL_cons, ↓ze4, ↓ze3, ↓ze2, ↓ze5, ↓z106, ↓z103, ↓z105, ↓z101, ↓z107, ↓z104, ↓z102, ↓ze8, ↓zf5, ↓zfd, ↓zf6, ↓zfb, ↓ze6, ↓zfc, ↓zf4, ↓ze9, ↓ze7, ↓zf2, ↓zed, ↓zf3, ↓zec, ↓zf1, ↓zee, ↓zef, ↓zfe, ↓zf9, ↓zfa, ↓zf8, ↓zf7, ↓zea, ↓zeb, ↓zf0, ↓z100, ↓zff, ↓z1q, ↓z1q', ↓z12, ↓z12', ↓z2a, ↓z2a', ↓z1c, ↓z7, ↓z15, ↓z21, ↓ze, ↓z19, ↓z26, ↓z3, ↓zc, ↓zd, ↓zf, ↓z27, ↓z8, WO_some, WO_none, IfO_true, IfO_false, z10, za, z0, z1a, z17, z11, z28, z29, z1d, z1f, z23, z1b, ↓z73, ↓z74, ↓z6f, ↓z71, ↓z72, ↓z31, ↓z30, ↓z2f, ↓z2c, ↓z2e, ↓z78, ↓z76, ↓z75, ↓z79, ↓z77, if_ok, if_bl, if_and, if_or, getV, getB, opBin, opCmp, opIdx, opCut, opBi, tru, look, look_r, eqD, eqDs, Z.pure, pures, dep, deps, put_m, put_nx, new_m, new_nx, putIx, putOwn, insOf, lkN, putL, putN, thaw, getO, ixOf, LIM, B64, asI, Z.b2, z6d, z6e, z4a, z4b, z48, z49, z69, z6a, z32, z33, z34, z35, z36, z37, z42, z43, z3e, z3f, z40, z41, z38, z39, z3a, z3b, z3c, z3d, z44, z45, z6b, z6c, z52, z53, z56, z57, z58, z66, z67, z68, z5e, z5f, z60, z59, z5a, z64, z65, z50, z51, z4e, z4f, z54, z55, z61, z62, z63, z5b, z5c, z5d, z4c, z4d, z46, z47, z82, z83, z84, z85, z86, z87, z88, zbc, zbb, zba, t_prp_0_7, z8a, z89, z7a, z7b, z7c, z7d, z7e, z7f, z80, z81, z8b, z8c, z97, za2, zad, zb5, zb6, zb7, zb8, zb9, z8d, z8e, z8f, z90, z91, z92, z93, z94, z95, z96, z98, z99, z9a, z9b, z9c, z9d, z9e, z9f, za0, za1, za3, za4, za5, za6, za7, za8, za9, zaa, zab, zac, zae, zaf, zb0, zb1, zb2, zb3, zb4, g1, g2, g3, g4, g5, g6, h, h600, s_round_n, s__pay_, s__pay_n, s__when_n, s__take_, s__end, s__show_both_, s_n]
      repeat refine IfO.mk (by omega) ?_
      exact PP.mk so3 on (by simp; omega)
    · simp (config := {maxSteps := 4000000, dsimp := false, implicitDefEqProofs := false}) [↓zd2, ↓ze0, ↓zc2, ↓zcc, ↓zc0, ↓zd7, ↓zd9, ↓zc5, ↓zc6, ↓zbd, ↓zda, ↓zd0, ↓zc3, ↓zc4, ↓zd5, ↓zd6, ↓zdb, ↓zbe, ↓zce, ↓zdf, ↓zde, ↓zdd, ↓zdc, ↓ze1, ↓zd3, ↓zd4, ↓zc8, ↓zbf, ↓zc1, ↓zcf, ↓zca, ↓zcb, ↓zd1, ↓zcd, ↓zc9, ↓zd8, ↓zc7, ↓w_compL_nil, ↓w_compL_cons, ↓ze4, ↓ze3, ↓ze2, ↓ze5, ↓z106, ↓z103, ↓z105, ↓z101, ↓z107, ↓z104, ↓z102, ↓ze8, ↓zf5, ↓zfd, ↓zf6, ↓zfb, ↓ze6, ↓zfc, ↓zf4, ↓ze9, ↓ze7, ↓zf2, ↓zed, ↓zf3, ↓zec, ↓zf1, ↓zee, ↓zef, ↓zfe, ↓zf9, ↓zfa, ↓zf8, ↓zf7, ↓zea, ↓zeb, ↓zf0, ↓z100, ↓zff, ↓z1q, ↓z1q', ↓z12, ↓z12', ↓z2a, ↓z2a', ↓z1c, ↓z7, ↓z15, ↓z21, ↓ze, ↓z19, ↓z26, ↓z3, ↓zc, ↓zd, ↓zf, ↓z27, ↓z8, WO_some, WO_none, IfO_true, IfO_false, z10, za, z0, z1a, z17, z11, z28, z29, z1d, z1f, z23, z1b, ↓z73, ↓z74, ↓z6f, ↓z71, ↓z72, ↓z31, ↓z30, ↓z2f, ↓z2c, ↓z2e, ↓z78, ↓z76, ↓z75, ↓z79, ↓z77, if_ok, if_bl, if_and, if_or, getV, getB, opBin, opCmp, opIdx, opCut, opBi, tru, look, look_r, eqD, eqDs, Z.pure, pures, dep, deps, put_m, put_nx, new_m, new_nx, putIx, putOwn, insOf, lkN, putL, putN, thaw, getO, ixOf, LIM, B64, asI, Z.b2, z6d, z6e, z4a, z4b, z48, z49, z69, z6a, z32, z33, z34, z35, z36, z37, z42, z43, z3e, z3f, z40, z41, z38, z39, z3a, z3b, z3c, z3d, z44, z45, z6b, z6c, z52, z53, z56, z57, z58, z66, z67, z68, z5e, z5f, z60, z59, z5a, z64, z65, z50, z51, z4e, z4f, z54, z55, z61, z62, z63, z5b, z5c, z5d, z4c, z4d, z46, z47, z82, z83, z84, z85, z86, z87, z88, zbc, zbb, zba, t_prp_0_7, z8a, z89, z7a, z7b, z7c, z7d, z7e, z7f, z80, z81, z8b, z8c, z97, za2, zad, zb5, zb6, zb7, zb8, zb9, z8d, z8e, z8f, z90, z91, z92, z93, z94, z95, z96, z98, z99, z9a, z9b, z9c, z9d, z9e, z9f, za0, za1, za3, za4, za5, za6, za7, za8, za9, zaa, zab, zac, zae, zaf, zb0, zb1, zb2, zb3, zb4, g1, g2, g3, g4, g5, g6, h, h600, s_round_n, s__pay_, s__pay_n, s__when_n, s__take_, s__end, s__show_both_, s_n]
      repeat refine IfO.mk (by omega) ?_
      exact PP.mk so3 on (by simp; omega)
theorem piece_ok (q : Nat) (c : Int) (M : Sto) : WR (fun v M' => PP v M M') nX (callA tb.P (Cl (q + 2)) 15 [.int c] M) := by
  rw [c_law_piece, z8]
  unfold b_law_piece
  have h : c % 3 = 0 ∨ c % 3 = 1 ∨ c % 3 = 2 := by omega
  rcases h with h | h | h
  · simp (config := {maxSteps := 4000000, dsimp := false, implicitDefEqProofs := false}) [↓zd2, ↓ze0, ↓zc2, ↓zcc, ↓zc0, ↓zd7, ↓zd9, ↓zc5, ↓zc6, ↓zbd, ↓zda, ↓zd0, ↓zc3, ↓zc4, ↓zd5, ↓zd6, ↓zdb, ↓zbe, ↓zce, ↓zdf, ↓zde, ↓zdd, ↓zdc, ↓ze1, ↓zd3, ↓zd4, ↓zc8, ↓zbf, ↓zc1, ↓zcf, ↓zca, ↓zcb, ↓zd1, ↓zcd, ↓zc9, ↓zd8, ↓zc7, ↓w_compL_nil, ↓w_compL_cons, ↓ze4, ↓ze3, ↓ze2, ↓ze5, ↓z106, ↓z103, ↓z105, ↓z101, ↓z107, ↓z104, ↓z102, ↓ze8, ↓zf5, ↓zfd, ↓zf6, ↓zfb, ↓ze6, ↓zfc, ↓zf4, ↓ze9, ↓ze7, ↓zf2, ↓zed, ↓zf3, ↓zec, ↓zf1, ↓zee, ↓zef, ↓zfe, ↓zf9, ↓zfa, ↓zf8, ↓zf7, ↓zea, ↓zeb, ↓zf0, ↓z100, ↓zff, ↓z1q, ↓z1q', ↓z12, ↓z12', ↓z2a, ↓z2a', ↓z1c, ↓z7, ↓z15, ↓z21, ↓ze, ↓z19, ↓z26, ↓z3, ↓zc, ↓zd, ↓zf, ↓z27, ↓z8, WO_some, WO_none, IfO_true, IfO_false, z10, za, z0, z1a, z17, z11, z28, z29, z1d, z1f, z23, z1b, ↓z73, ↓z74, ↓z6f, ↓z71, ↓z72, ↓z31, ↓z30, ↓z2f, ↓z2c, ↓z2e, ↓z78, ↓z76, ↓z75, ↓z79, ↓z77, if_ok, if_bl, if_and, if_or, getV, getB, opBin, opCmp, opIdx, opCut, opBi, tru, look, look_r, eqD, eqDs, Z.pure, pures, dep, deps, put_m, put_nx, new_m, new_nx, putIx, putOwn, insOf, lkN, putL, putN, thaw, getO, ixOf, LIM, B64, asI, Z.b2, z6d, z6e, z4a, z4b, z48, z49, z69, z6a, z32, z33, z34, z35, z36, z37, z42, z43, z3e, z3f, z40, z41, z38, z39, z3a, z3b, z3c, z3d, z44, z45, z6b, z6c, z52, z53, z56, z57, z58, z66, z67, z68, z5e, z5f, z60, z59, z5a, z64, z65, z50, z51, z4e, z4f, z54, z55, z61, z62, z63, z5b, z5c, z5d, z4c, z4d, z46, z47, z82, z83, z84, z85, z86, z87, z88, zbc, zbb, zba, t_prp_0_7, z8a, z89, z7a, z7b, z7c, z7d, z7e, z7f, z80, z81, z8b, z8c, z97, za2, zad, zb5, zb6, zb7, zb8, zb9, z8d, z8e, z8f, z90, z91, z92, z93, z94, z95, z96, z98, z99, z9a, z9b, z9c, z9d, z9e, z9f, za0, za1, za3, za4, za5, za6, za7, za8, za9, zaa, zab, zac, zae, zaf, zb0, zb1, zb2, zb3, zb4, h]
    exact (option_ok q _ _ (by omega) (by omega) M).go fun v M' hp => by simp (config := {maxSteps := 4000000, dsimp := false, implicitDefEqProofs := false}) [↓zd2, ↓ze0, ↓zc2, ↓zcc, ↓zc0, ↓zd7, ↓zd9, ↓zc5, ↓zc6, ↓zbd, ↓zda, ↓zd0, ↓zc3, ↓zc4, ↓zd5, ↓zd6, ↓zdb, ↓zbe, ↓zce, ↓zdf, ↓zde, ↓zdd, ↓zdc, ↓ze1, ↓zd3, ↓zd4, ↓zc8, ↓zbf, ↓zc1, ↓zcf, ↓zca, ↓zcb, ↓zd1, ↓zcd, ↓zc9, ↓zd8, ↓zc7, ↓w_compL_nil, ↓w_compL_cons, ↓ze4, ↓ze3, ↓ze2, ↓ze5, ↓z106, ↓z103, ↓z105, ↓z101, ↓z107, ↓z104, ↓z102, ↓ze8, ↓zf5, ↓zfd, ↓zf6, ↓zfb, ↓ze6, ↓zfc, ↓zf4, ↓ze9, ↓ze7, ↓zf2, ↓zed, ↓zf3, ↓zec, ↓zf1, ↓zee, ↓zef, ↓zfe, ↓zf9, ↓zfa, ↓zf8, ↓zf7, ↓zea, ↓zeb, ↓zf0, ↓z100, ↓zff, ↓z1q, ↓z1q', ↓z12, ↓z12', ↓z2a, ↓z2a', ↓z1c, ↓z7, ↓z15, ↓z21, ↓ze, ↓z19, ↓z26, ↓z3, ↓zc, ↓zd, ↓zf, ↓z27, ↓z8, WO_some, WO_none, IfO_true, IfO_false, z10, za, z0, z1a, z17, z11, z28, z29, z1d, z1f, z23, z1b, ↓z73, ↓z74, ↓z6f, ↓z71, ↓z72, ↓z31, ↓z30, ↓z2f, ↓z2c, ↓z2e, ↓z78, ↓z76, ↓z75, ↓z79, ↓z77, if_ok, if_bl, if_and, if_or, getV, getB, opBin, opCmp, opIdx, opCut, opBi, tru, look, look_r, eqD, eqDs, Z.pure, pures, dep, deps, put_m, put_nx, new_m, new_nx, putIx, putOwn, insOf, lkN, putL, putN, thaw, getO, ixOf, LIM, B64, asI, Z.b2, z6d, z6e, z4a, z4b, z48, z49, z69, z6a, z32, z33, z34, z35, z36, z37, z42, z43, z3e, z3f, z40, z41, z38, z39, z3a, z3b, z3c, z3d, z44, z45, z6b, z6c, z52, z53, z56, z57, z58, z66, z67, z68, z5e, z5f, z60, z59, z5a, z64, z65, z50, z51, z4e, z4f, z54, z55, z61, z62, z63, z5b, z5c, z5d, z4c, z4d, z46, z47, z82, z83, z84, z85, z86, z87, z88, zbc, zbb, zba, t_prp_0_7, z8a, z89, z7a, z7b, z7c, z7d, z7e, z7f, z80, z81, z8b, z8c, z97, za2, zad, zb5, zb6, zb7, zb8, zb9, z8d, z8e, z8f, z90, z91, z92, z93, z94, z95, z96, z98, z99, z9a, z9b, z9c, z9d, z9e, z9f, za0, za1, za3, za4, za5, za6, za7, za8, za9, zaa, zab, zac, zae, zaf, zb0, zb1, zb2, zb3, zb4]; exact hp
  · simp (config := {maxSteps := 4000000, dsimp := false, implicitDefEqProofs := false}) [↓zd2, ↓ze0, ↓zc2, ↓zcc, ↓zc0, ↓zd7, ↓zd9, ↓zc5, ↓zc6, ↓zbd, ↓zda, ↓zd0, ↓zc3, ↓zc4, ↓zd5, ↓zd6, ↓zdb, ↓zbe, ↓zce, ↓zdf, ↓zde, ↓zdd, ↓zdc, ↓ze1, ↓zd3, ↓zd4, ↓zc8, ↓zbf, ↓zc1, ↓zcf, ↓zca, ↓zcb, ↓zd1, ↓zcd, ↓zc9, ↓zd8, ↓zc7, ↓w_compL_nil, ↓w_compL_cons, ↓ze4, ↓ze3, ↓ze2, ↓ze5, ↓z106, ↓z103, ↓z105, ↓z101, ↓z107, ↓z104, ↓z102, ↓ze8, ↓zf5, ↓zfd, ↓zf6, ↓zfb, ↓ze6, ↓zfc, ↓zf4, ↓ze9, ↓ze7, ↓zf2, ↓zed, ↓zf3, ↓zec, ↓zf1, ↓zee, ↓zef, ↓zfe, ↓zf9, ↓zfa, ↓zf8, ↓zf7, ↓zea, ↓zeb, ↓zf0, ↓z100, ↓zff, ↓z1q, ↓z1q', ↓z12, ↓z12', ↓z2a, ↓z2a', ↓z1c, ↓z7, ↓z15, ↓z21, ↓ze, ↓z19, ↓z26, ↓z3, ↓zc, ↓zd, ↓zf, ↓z27, ↓z8, WO_some, WO_none, IfO_true, IfO_false, z10, za, z0, z1a, z17, z11, z28, z29, z1d, z1f, z23, z1b, ↓z73, ↓z74, ↓z6f, ↓z71, ↓z72, ↓z31, ↓z30, ↓z2f, ↓z2c, ↓z2e, ↓z78, ↓z76, ↓z75, ↓z79, ↓z77, if_ok, if_bl, if_and, if_or, getV, getB, opBin, opCmp, opIdx, opCut, opBi, tru, look, look_r, eqD, eqDs, Z.pure, pures, dep, deps, put_m, put_nx, new_m, new_nx, putIx, putOwn, insOf, lkN, putL, putN, thaw, getO, ixOf, LIM, B64, asI, Z.b2, z6d, z6e, z4a, z4b, z48, z49, z69, z6a, z32, z33, z34, z35, z36, z37, z42, z43, z3e, z3f, z40, z41, z38, z39, z3a, z3b, z3c, z3d, z44, z45, z6b, z6c, z52, z53, z56, z57, z58, z66, z67, z68, z5e, z5f, z60, z59, z5a, z64, z65, z50, z51, z4e, z4f, z54, z55, z61, z62, z63, z5b, z5c, z5d, z4c, z4d, z46, z47, z82, z83, z84, z85, z86, z87, z88, zbc, zbb, zba, t_prp_0_7, z8a, z89, z7a, z7b, z7c, z7d, z7e, z7f, z80, z81, z8b, z8c, z97, za2, zad, zb5, zb6, zb7, zb8, zb9, z8d, z8e, z8f, z90, z91, z92, z93, z94, z95, z96, z98, z99, z9a, z9b, z9c, z9d, z9e, z9f, za0, za1, za3, za4, za5, za6, za7, za8, za9, zaa, zab, zac, zae, zaf, zb0, zb1, zb2, zb3, zb4, h]
    exact (variable_ok q _ _ (by omega) (by omega) M).go fun v M' hp => by simp (config := {maxSteps := 4000000, dsimp := false, implicitDefEqProofs := false}) [↓zd2, ↓ze0, ↓zc2, ↓zcc, ↓zc0, ↓zd7, ↓zd9, ↓zc5, ↓zc6, ↓zbd, ↓zda, ↓zd0, ↓zc3, ↓zc4, ↓zd5, ↓zd6, ↓zdb, ↓zbe, ↓zce, ↓zdf, ↓zde, ↓zdd, ↓zdc, ↓ze1, ↓zd3, ↓zd4, ↓zc8, ↓zbf, ↓zc1, ↓zcf, ↓zca, ↓zcb, ↓zd1, ↓zcd, ↓zc9, ↓zd8, ↓zc7, ↓w_compL_nil, ↓w_compL_cons, ↓ze4, ↓ze3, ↓ze2, ↓ze5, ↓z106, ↓z103, ↓z105, ↓z101, ↓z107, ↓z104, ↓z102, ↓ze8, ↓zf5, ↓zfd, ↓zf6, ↓zfb, ↓ze6, ↓zfc, ↓zf4, ↓ze9, ↓ze7, ↓zf2, ↓zed, ↓zf3, ↓zec, ↓zf1, ↓zee, ↓zef, ↓zfe, ↓zf9, ↓zfa, ↓zf8, ↓zf7, ↓zea, ↓zeb, ↓zf0, ↓z100, ↓zff, ↓z1q, ↓z1q', ↓z12, ↓z12', ↓z2a, ↓z2a', ↓z1c, ↓z7, ↓z15, ↓z21, ↓ze, ↓z19, ↓z26, ↓z3, ↓zc, ↓zd, ↓zf, ↓z27, ↓z8, WO_some, WO_none, IfO_true, IfO_false, z10, za, z0, z1a, z17, z11, z28, z29, z1d, z1f, z23, z1b, ↓z73, ↓z74, ↓z6f, ↓z71, ↓z72, ↓z31, ↓z30, ↓z2f, ↓z2c, ↓z2e, ↓z78, ↓z76, ↓z75, ↓z79, ↓z77, if_ok, if_bl, if_and, if_or, getV, getB, opBin, opCmp, opIdx, opCut, opBi, tru, look, look_r, eqD, eqDs, Z.pure, pures, dep, deps, put_m, put_nx, new_m, new_nx, putIx, putOwn, insOf, lkN, putL, putN, thaw, getO, ixOf, LIM, B64, asI, Z.b2, z6d, z6e, z4a, z4b, z48, z49, z69, z6a, z32, z33, z34, z35, z36, z37, z42, z43, z3e, z3f, z40, z41, z38, z39, z3a, z3b, z3c, z3d, z44, z45, z6b, z6c, z52, z53, z56, z57, z58, z66, z67, z68, z5e, z5f, z60, z59, z5a, z64, z65, z50, z51, z4e, z4f, z54, z55, z61, z62, z63, z5b, z5c, z5d, z4c, z4d, z46, z47, z82, z83, z84, z85, z86, z87, z88, zbc, zbb, zba, t_prp_0_7, z8a, z89, z7a, z7b, z7c, z7d, z7e, z7f, z80, z81, z8b, z8c, z97, za2, zad, zb5, zb6, zb7, zb8, zb9, z8d, z8e, z8f, z90, z91, z92, z93, z94, z95, z96, z98, z99, z9a, z9b, z9c, z9d, z9e, z9f, za0, za1, za3, za4, za5, za6, za7, za8, za9, zaa, zab, zac, zae, zaf, zb0, zb1, zb2, zb3, zb4]; exact hp
  · simp (config := {maxSteps := 4000000, dsimp := false, implicitDefEqProofs := false}) [↓zd2, ↓ze0, ↓zc2, ↓zcc, ↓zc0, ↓zd7, ↓zd9, ↓zc5, ↓zc6, ↓zbd, ↓zda, ↓zd0, ↓zc3, ↓zc4, ↓zd5, ↓zd6, ↓zdb, ↓zbe, ↓zce, ↓zdf, ↓zde, ↓zdd, ↓zdc, ↓ze1, ↓zd3, ↓zd4, ↓zc8, ↓zbf, ↓zc1, ↓zcf, ↓zca, ↓zcb, ↓zd1, ↓zcd, ↓zc9, ↓zd8, ↓zc7, ↓w_compL_nil, ↓w_compL_cons, ↓ze4, ↓ze3, ↓ze2, ↓ze5, ↓z106, ↓z103, ↓z105, ↓z101, ↓z107, ↓z104, ↓z102, ↓ze8, ↓zf5, ↓zfd, ↓zf6, ↓zfb, ↓ze6, ↓zfc, ↓zf4, ↓ze9, ↓ze7, ↓zf2, ↓zed, ↓zf3, ↓zec, ↓zf1, ↓zee, ↓zef, ↓zfe, ↓zf9, ↓zfa, ↓zf8, ↓zf7, ↓zea, ↓zeb, ↓zf0, ↓z100, ↓zff, ↓z1q, ↓z1q', ↓z12, ↓z12', ↓z2a, ↓z2a', ↓z1c, ↓z7, ↓z15, ↓z21, ↓ze, ↓z19, ↓z26, ↓z3, ↓zc, ↓zd, ↓zf, ↓z27, ↓z8, WO_some, WO_none, IfO_true, IfO_false, z10, za, z0, z1a, z17, z11, z28, z29, z1d, z1f, z23, z1b, ↓z73, ↓z74, ↓z6f, ↓z71, ↓z72, ↓z31, ↓z30, ↓z2f, ↓z2c, ↓z2e, ↓z78, ↓z76, ↓z75, ↓z79, ↓z77, if_ok, if_bl, if_and, if_or, getV, getB, opBin, opCmp, opIdx, opCut, opBi, tru, look, look_r, eqD, eqDs, Z.pure, pures, dep, deps, put_m, put_nx, new_m, new_nx, putIx, putOwn, insOf, lkN, putL, putN, thaw, getO, ixOf, LIM, B64, asI, Z.b2, z6d, z6e, z4a, z4b, z48, z49, z69, z6a, z32, z33, z34, z35, z36, z37, z42, z43, z3e, z3f, z40, z41, z38, z39, z3a, z3b, z3c, z3d, z44, z45, z6b, z6c, z52, z53, z56, z57, z58, z66, z67, z68, z5e, z5f, z60, z59, z5a, z64, z65, z50, z51, z4e, z4f, z54, z55, z61, z62, z63, z5b, z5c, z5d, z4c, z4d, z46, z47, z82, z83, z84, z85, z86, z87, z88, zbc, zbb, zba, t_prp_0_7, z8a, z89, z7a, z7b, z7c, z7d, z7e, z7f, z80, z81, z8b, z8c, z97, za2, zad, zb5, zb6, zb7, zb8, zb9, z8d, z8e, z8f, z90, z91, z92, z93, z94, z95, z96, z98, z99, z9a, z9b, z9c, z9d, z9e, z9f, za0, za1, za3, za4, za5, za6, za7, za8, za9, zaa, zab, zac, zae, zaf, zb0, zb1, zb2, zb3, zb4, h]
    exact (round_ok q _ _ (by omega) (by omega) M).go fun v M' hp => by simp (config := {maxSteps := 4000000, dsimp := false, implicitDefEqProofs := false}) [↓zd2, ↓ze0, ↓zc2, ↓zcc, ↓zc0, ↓zd7, ↓zd9, ↓zc5, ↓zc6, ↓zbd, ↓zda, ↓zd0, ↓zc3, ↓zc4, ↓zd5, ↓zd6, ↓zdb, ↓zbe, ↓zce, ↓zdf, ↓zde, ↓zdd, ↓zdc, ↓ze1, ↓zd3, ↓zd4, ↓zc8, ↓zbf, ↓zc1, ↓zcf, ↓zca, ↓zcb, ↓zd1, ↓zcd, ↓zc9, ↓zd8, ↓zc7, ↓w_compL_nil, ↓w_compL_cons, ↓ze4, ↓ze3, ↓ze2, ↓ze5, ↓z106, ↓z103, ↓z105, ↓z101, ↓z107, ↓z104, ↓z102, ↓ze8, ↓zf5, ↓zfd, ↓zf6, ↓zfb, ↓ze6, ↓zfc, ↓zf4, ↓ze9, ↓ze7, ↓zf2, ↓zed, ↓zf3, ↓zec, ↓zf1, ↓zee, ↓zef, ↓zfe, ↓zf9, ↓zfa, ↓zf8, ↓zf7, ↓zea, ↓zeb, ↓zf0, ↓z100, ↓zff, ↓z1q, ↓z1q', ↓z12, ↓z12', ↓z2a, ↓z2a', ↓z1c, ↓z7, ↓z15, ↓z21, ↓ze, ↓z19, ↓z26, ↓z3, ↓zc, ↓zd, ↓zf, ↓z27, ↓z8, WO_some, WO_none, IfO_true, IfO_false, z10, za, z0, z1a, z17, z11, z28, z29, z1d, z1f, z23, z1b, ↓z73, ↓z74, ↓z6f, ↓z71, ↓z72, ↓z31, ↓z30, ↓z2f, ↓z2c, ↓z2e, ↓z78, ↓z76, ↓z75, ↓z79, ↓z77, if_ok, if_bl, if_and, if_or, getV, getB, opBin, opCmp, opIdx, opCut, opBi, tru, look, look_r, eqD, eqDs, Z.pure, pures, dep, deps, put_m, put_nx, new_m, new_nx, putIx, putOwn, insOf, lkN, putL, putN, thaw, getO, ixOf, LIM, B64, asI, Z.b2, z6d, z6e, z4a, z4b, z48, z49, z69, z6a, z32, z33, z34, z35, z36, z37, z42, z43, z3e, z3f, z40, z41, z38, z39, z3a, z3b, z3c, z3d, z44, z45, z6b, z6c, z52, z53, z56, z57, z58, z66, z67, z68, z5e, z5f, z60, z59, z5a, z64, z65, z50, z51, z4e, z4f, z54, z55, z61, z62, z63, z5b, z5c, z5d, z4c, z4d, z46, z47, z82, z83, z84, z85, z86, z87, z88, zbc, zbb, zba, t_prp_0_7, z8a, z89, z7a, z7b, z7c, z7d, z7e, z7f, z80, z81, z8b, z8c, z97, za2, zad, zb5, zb6, zb7, zb8, zb9, z8d, z8e, z8f, z90, z91, z92, z93, z94, z95, z96, z98, z99, z9a, z9b, z9c, z9d, z9e, z9f, za0, za1, za3, za4, za5, za6, za7, za8, za9, zaa, zab, zac, zae, zaf, zb0, zb1, zb2, zb3, zb4]; exact hp
end Q


set_option Elab.async false
set_option linter.all false
set_option autoImplicit false
set_option maxRecDepth 100000
set_option maxHeartbeats 4000000
namespace Q
open PySem L2 Z
theorem strange_ok (q : Nat) (c : Int) (M : Sto) : WR (fun v M' => M' = M ∧ ∃ t : W, v = .str t ∧ t.length ≤ 200) nX (callA tb.P (Cl (q + 1)) 16 [.int c] M) := by
  rw [c_law_strange, z8]
  unfold b_law_strange
  have h0 : 0 ≤ c % 10 := by omega
  have h1 : c % 10 < 10 := by omega
  obtain ⟨x, hx, hl⟩ : ∃ x : W, [D.str s_, .str s_x, .str s_end_1, .str s__var_n0_2, .str s_round, .str s_var, .str s_option, .str s_var_n0_2_var_n1_3, .str s_option_n0, .str s_round_n0_pay_n2][(c % 10).toNat]? = some (.str x) ∧ x.length ≤ 200 := by
    have : c % 10 = 0 ∨ c % 10 = 1 ∨ c % 10 = 2 ∨ c % 10 = 3 ∨ c % 10 = 4 ∨ c % 10 = 5 ∨ c % 10 = 6 ∨ c % 10 = 7 ∨ c % 10 = 8 ∨ c % 10 = 9 := by omega
    rcases this with h | h | h | h | h | h | h | h | h | h <;> rw [h] <;> exact ⟨_, rfl, by decide⟩
  have ux : ∀ h, [D.str s_, .str s_x, .str s_end_1, .str s__var_n0_2, .str s_round, .str s_var, .str s_option, .str s_var_n0_2_var_n1_3, .str s_option_n0, .str s_round_n0_pay_n2][(c % 10).toNat]'h = .str x := fun h => by rw [List.getElem?_eq_getElem h] at hx; exact Option.some.inj hx
  simp (config := {maxSteps := 4000000, dsimp := false, implicitDefEqProofs := false}) [↓zd2, ↓ze0, ↓zc2, ↓zcc, ↓zc0, ↓zd7, ↓zd9, ↓zc5, ↓zc6, ↓zbd, ↓zda, ↓zd0, ↓zc3, ↓zc4, ↓zd5, ↓zd6, ↓zdb, ↓zbe, ↓zce, ↓zdf, ↓zde, ↓zdd, ↓zdc, ↓ze1, ↓zd3, ↓zd4, ↓zc8, ↓zbf, ↓zc1, ↓zcf, ↓zca, ↓zcb, ↓zd1, ↓zcd, ↓zc9, ↓zd8, ↓zc7, ↓w_compL_nil, ↓w_compL_cons, ↓ze4, ↓ze3, ↓ze2, ↓ze5, ↓z106, ↓z103, ↓z105, ↓z101, ↓z107, ↓z104, ↓z102, ↓ze8, ↓zf5, ↓zfd, ↓zf6, ↓zfb, ↓ze6, ↓zfc, ↓zf4, ↓ze9, ↓ze7, ↓zf2, ↓zed, ↓zf3, ↓zec, ↓zf1, ↓zee, ↓zef, ↓zfe, ↓zf9, ↓zfa, ↓zf8, ↓zf7, ↓zea, ↓zeb, ↓zf0, ↓z100, ↓zff, ↓z1q, ↓z1q', ↓z12, ↓z12', ↓z2a, ↓z2a', ↓z1c, ↓z7, ↓z15, ↓z21, ↓ze, ↓z19, ↓z26, ↓z3, ↓zc, ↓zd, ↓zf, ↓z27, ↓z8, WO_some, WO_none, IfO_true, IfO_false, z10, za, z0, z1a, z17, z11, z28, z29, z1d, z1f, z23, z1b, ↓z73, ↓z74, ↓z6f, ↓z71, ↓z72, ↓z31, ↓z30, ↓z2f, ↓z2c, ↓z2e, ↓z78, ↓z76, ↓z75, ↓z79, ↓z77, if_ok, if_bl, if_and, if_or, getV, getB, opBin, opCmp, opIdx, opCut, opBi, tru, look, look_r, eqD, eqDs, Z.pure, pures, dep, deps, put_m, put_nx, new_m, new_nx, putIx, putOwn, insOf, lkN, putL, putN, thaw, getO, ixOf, LIM, B64, asI, Z.b2, z6d, z6e, z4a, z4b, z48, z49, z69, z6a, z32, z33, z34, z35, z36, z37, z42, z43, z3e, z3f, z40, z41, z38, z39, z3a, z3b, z3c, z3d, z44, z45, z6b, z6c, z52, z53, z56, z57, z58, z66, z67, z68, z5e, z5f, z60, z59, z5a, z64, z65, z50, z51, z4e, z4f, z54, z55, z61, z62, z63, z5b, z5c, z5d, z4c, z4d, z46, z47, z82, z83, z84, z85, z86, z87, z88, zbc, zbb, zba, t_prp_0_7, z8a, z89, z7a, z7b, z7c, z7d, z7e, z7f, z80, z81, z8b, z8c, z97, za2, zad, zb5, zb6, zb7, zb8, zb9, z8d, z8e, z8f, z90, z91, z92, z93, z94, z95, z96, z98, z99, z9a, z9b, z9c, z9d, z9e, z9f, za0, za1, za3, za4, za5, za6, za7, za8, za9, zaa, zab, zac, zae, zaf, zb0, zb1, zb2, zb3, zb4, h0, h1, hx, ux]
  exact hl
def EdR : Ed → Prop
  | .put t => t.length ≤ 200
  | .back _ => False
  | .drop s n => (s ∈ sortW ∨ s = s_end) ∧ onm n
  | .sw n _ => onm n
def EP (v : D) (M M' : Sto) : Prop := M' = M ∧ ∃ e, v = edD e ∧ EdR e
theorem edit_ok (q : Nat) (c : Int) (M : Sto) : WR (fun v M' => EP v M M') nX (callA tb.P (Cl (q + 3)) 17 [.int c] M) := by
  rw [c_law_edit, z8]
  unfold b_law_edit
  have h4 : c % 4 = 0 ∨ c % 4 = 1 ∨ c % 4 = 2 ∨ c % 4 = 3 := by omega
  rcases h4 with h | h | h | h
  · by_cases h7 : c / 4 % 7 = 3
    · simp (config := {maxSteps := 4000000, dsimp := false, implicitDefEqProofs := false}) [↓zd2, ↓ze0, ↓zc2, ↓zcc, ↓zc0, ↓zd7, ↓zd9, ↓zc5, ↓zc6, ↓zbd, ↓zda, ↓zd0, ↓zc3, ↓zc4, ↓zd5, ↓zd6, ↓zdb, ↓zbe, ↓zce, ↓zdf, ↓zde, ↓zdd, ↓zdc, ↓ze1, ↓zd3, ↓zd4, ↓zc8, ↓zbf, ↓zc1, ↓zcf, ↓zca, ↓zcb, ↓zd1, ↓zcd, ↓zc9, ↓zd8, ↓zc7, ↓w_compL_nil, ↓w_compL_cons, ↓ze4, ↓ze3, ↓ze2, ↓ze5, ↓z106, ↓z103, ↓z105, ↓z101, ↓z107, ↓z104, ↓z102, ↓ze8, ↓zf5, ↓zfd, ↓zf6, ↓zfb, ↓ze6, ↓zfc, ↓zf4, ↓ze9, ↓ze7, ↓zf2, ↓zed, ↓zf3, ↓zec, ↓zf1, ↓zee, ↓zef, ↓zfe, ↓zf9, ↓zfa, ↓zf8, ↓zf7, ↓zea, ↓zeb, ↓zf0, ↓z100, ↓zff, ↓z1q, ↓z1q', ↓z12, ↓z12', ↓z2a, ↓z2a', ↓z1c, ↓z7, ↓z15, ↓z21, ↓ze, ↓z19, ↓z26, ↓z3, ↓zc, ↓zd, ↓zf, ↓z27, ↓z8, WO_some, WO_none, IfO_true, IfO_false, z10, za, z0, z1a, z17, z11, z28, z29, z1d, z1f, z23, z1b, ↓z73, ↓z74, ↓z6f, ↓z71, ↓z72, ↓z31, ↓z30, ↓z2f, ↓z2c, ↓z2e, ↓z78, ↓z76, ↓z75, ↓z79, ↓z77, if_ok, if_bl, if_and, if_or, getV, getB, opBin, opCmp, opIdx, opCut, opBi, tru, look, look_r, eqD, eqDs, Z.pure, pures, dep, deps, put_m, put_nx, new_m, new_nx, putIx, putOwn, insOf, lkN, putL, putN, thaw, getO, ixOf, LIM, B64, asI, Z.b2, z6d, z6e, z4a, z4b, z48, z49, z69, z6a, z32, z33, z34, z35, z36, z37, z42, z43, z3e, z3f, z40, z41, z38, z39, z3a, z3b, z3c, z3d, z44, z45, z6b, z6c, z52, z53, z56, z57, z58, z66, z67, z68, z5e, z5f, z60, z59, z5a, z64, z65, z50, z51, z4e, z4f, z54, z55, z61, z62, z63, z5b, z5c, z5d, z4c, z4d, z46, z47, z82, z83, z84, z85, z86, z87, z88, zbc, zbb, zba, t_prp_0_7, z8a, z89, z7a, z7b, z7c, z7d, z7e, z7f, z80, z81, z8b, z8c, z97, za2, zad, zb5, zb6, zb7, zb8, zb9, z8d, z8e, z8f, z90, z91, z92, z93, z94, z95, z96, z98, z99, z9a, z9b, z9c, z9d, z9e, z9f, za0, za1, za3, za4, za5, za6, za7, za8, za9, zaa, zab, zac, zae, zaf, zb0, zb1, zb2, zb3, zb4, h, h7]
      refine (strange_ok (q + 1) _ M).go ?_
      rintro _ M2 ⟨rfl, t, rfl, hl⟩
      simp (config := {maxSteps := 4000000, dsimp := false, implicitDefEqProofs := false}) [↓zd2, ↓ze0, ↓zc2, ↓zcc, ↓zc0, ↓zd7, ↓zd9, ↓zc5, ↓zc6, ↓zbd, ↓zda, ↓zd0, ↓zc3, ↓zc4, ↓zd5, ↓zd6, ↓zdb, ↓zbe, ↓zce, ↓zdf, ↓zde, ↓zdd, ↓zdc, ↓ze1, ↓zd3, ↓zd4, ↓zc8, ↓zbf, ↓zc1, ↓zcf, ↓zca, ↓zcb, ↓zd1, ↓zcd, ↓zc9, ↓zd8, ↓zc7, ↓w_compL_nil, ↓w_compL_cons, ↓ze4, ↓ze3, ↓ze2, ↓ze5, ↓z106, ↓z103, ↓z105, ↓z101, ↓z107, ↓z104, ↓z102, ↓ze8, ↓zf5, ↓zfd, ↓zf6, ↓zfb, ↓ze6, ↓zfc, ↓zf4, ↓ze9, ↓ze7, ↓zf2, ↓zed, ↓zf3, ↓zec, ↓zf1, ↓zee, ↓zef, ↓zfe, ↓zf9, ↓zfa, ↓zf8, ↓zf7, ↓zea, ↓zeb, ↓zf0, ↓z100, ↓zff, ↓z1q, ↓z1q', ↓z12, ↓z12', ↓z2a, ↓z2a', ↓z1c, ↓z7, ↓z15, ↓z21, ↓ze, ↓z19, ↓z26, ↓z3, ↓zc, ↓zd, ↓zf, ↓z27, ↓z8, WO_some, WO_none, IfO_true, IfO_false, z10, za, z0, z1a, z17, z11, z28, z29, z1d, z1f, z23, z1b, ↓z73, ↓z74, ↓z6f, ↓z71, ↓z72, ↓z31, ↓z30, ↓z2f, ↓z2c, ↓z2e, ↓z78, ↓z76, ↓z75, ↓z79, ↓z77, if_ok, if_bl, if_and, if_or, getV, getB, opBin, opCmp, opIdx, opCut, opBi, tru, look, look_r, eqD, eqDs, Z.pure, pures, dep, deps, put_m, put_nx, new_m, new_nx, putIx, putOwn, insOf, lkN, putL, putN, thaw, getO, ixOf, LIM, B64, asI, Z.b2, z6d, z6e, z4a, z4b, z48, z49, z69, z6a, z32, z33, z34, z35, z36, z37, z42, z43, z3e, z3f, z40, z41, z38, z39, z3a, z3b, z3c, z3d, z44, z45, z6b, z6c, z52, z53, z56, z57, z58, z66, z67, z68, z5e, z5f, z60, z59, z5a, z64, z65, z50, z51, z4e, z4f, z54, z55, z61, z62, z63, z5b, z5c, z5d, z4c, z4d, z46, z47, z82, z83, z84, z85, z86, z87, z88, zbc, zbb, zba, t_prp_0_7, z8a, z89, z7a, z7b, z7c, z7d, z7e, z7f, z80, z81, z8b, z8c, z97, za2, zad, zb5, zb6, zb7, zb8, zb9, z8d, z8e, z8f, z90, z91, z92, z93, z94, z95, z96, z98, z99, z9a, z9b, z9c, z9d, z9e, z9f, za0, za1, za3, za4, za5, za6, za7, za8, za9, zaa, zab, zac, zae, zaf, zb0, zb1, zb2, zb3, zb4]
      exact ⟨rfl, .put t, rfl, hl⟩
    · simp (config := {maxSteps := 4000000, dsimp := false, implicitDefEqProofs := false}) [↓zd2, ↓ze0, ↓zc2, ↓zcc, ↓zc0, ↓zd7, ↓zd9, ↓zc5, ↓zc6, ↓zbd, ↓zda, ↓zd0, ↓zc3, ↓zc4, ↓zd5, ↓zd6, ↓zdb, ↓zbe, ↓zce, ↓zdf, ↓zde, ↓zdd, ↓zdc, ↓ze1, ↓zd3, ↓zd4, ↓zc8, ↓zbf, ↓zc1, ↓zcf, ↓zca, ↓zcb, ↓zd1, ↓zcd, ↓zc9, ↓zd8, ↓zc7, ↓w_compL_nil, ↓w_compL_cons, ↓ze4, ↓ze3, ↓ze2, ↓ze5, ↓z106, ↓z103, ↓z105, ↓z101, ↓z107, ↓z104, ↓z102, ↓ze8, ↓zf5, ↓zfd, ↓zf6, ↓zfb, ↓ze6, ↓zfc, ↓zf4, ↓ze9, ↓ze7, ↓zf2, ↓zed, ↓zf3, ↓zec, ↓zf1, ↓zee, ↓zef, ↓zfe, ↓zf9, ↓zfa, ↓zf8, ↓zf7, ↓zea, ↓zeb, ↓zf0, ↓z100, ↓zff, ↓z1q, ↓z1q', ↓z12, ↓z12', ↓z2a, ↓z2a', ↓z1c, ↓z7, ↓z15, ↓z21, ↓ze, ↓z19, ↓z26, ↓z3, ↓zc, ↓zd, ↓zf, ↓z27, ↓z8, WO_some, WO_none, IfO_true, IfO_false, z10, za, z0, z1a, z17, z11, z28, z29, z1d, z1f, z23, z1b, ↓z73, ↓z74, ↓z6f, ↓z71, ↓z72, ↓z31, ↓z30, ↓z2f, ↓z2c, ↓z2e, ↓z78, ↓z76, ↓z75, ↓z79, ↓z77, if_ok, if_bl, if_and, if_or, getV, getB, opBin, opCmp, opIdx, opCut, opBi, tru, look, look_r, eqD, eqDs, Z.pure, pures, dep, deps, put_m, put_nx, new_m, new_nx, putIx, putOwn, insOf, lkN, putL, putN, thaw, getO, ixOf, LIM, B64, asI, Z.b2, z6d, z6e, z4a, z4b, z48, z49, z69, z6a, z32, z33, z34, z35, z36, z37, z42, z43, z3e, z3f, z40, z41, z38, z39, z3a, z3b, z3c, z3d, z44, z45, z6b, z6c, z52, z53, z56, z57, z58, z66, z67, z68, z5e, z5f, z60, z59, z5a, z64, z65, z50, z51, z4e, z4f, z54, z55, z61, z62, z63, z5b, z5c, z5d, z4c, z4d, z46, z47, z82, z83, z84, z85, z86, z87, z88, zbc, zbb, zba, t_prp_0_7, z8a, z89, z7a, z7b, z7c, z7d, z7e, z7f, z80, z81, z8b, z8c, z97, za2, zad, zb5, zb6, zb7, zb8, zb9, z8d, z8e, z8f, z90, z91, z92, z93, z94, z95, z96, z98, z99, z9a, z9b, z9c, z9d, z9e, z9f, za0, za1, za3, za4, za5, za6, za7, za8, za9, zaa, zab, zac, zae, zaf, zb0, zb1, zb2, zb3, zb4, h, h7]
      refine (piece_ok q _ M).go ?_
      rintro _ M2 ⟨rfl, s, n, t, rfl, hs, hn, hl⟩
      simp (config := {maxSteps := 4000000, dsimp := false, implicitDefEqProofs := false}) [↓zd2, ↓ze0, ↓zc2, ↓zcc, ↓zc0, ↓zd7, ↓zd9, ↓zc5, ↓zc6, ↓zbd, ↓zda, ↓zd0, ↓zc3, ↓zc4, ↓zd5, ↓zd6, ↓zdb, ↓zbe, ↓zce, ↓zdf, ↓zde, ↓zdd, ↓zdc, ↓ze1, ↓zd3, ↓zd4, ↓zc8, ↓zbf, ↓zc1, ↓zcf, ↓zca, ↓zcb, ↓zd1, ↓zcd, ↓zc9, ↓zd8, ↓zc7, ↓w_compL_nil, ↓w_compL_cons, ↓ze4, ↓ze3, ↓ze2, ↓ze5, ↓z106, ↓z103, ↓z105, ↓z101, ↓z107, ↓z104, ↓z102, ↓ze8, ↓zf5, ↓zfd, ↓zf6, ↓zfb, ↓ze6, ↓zfc, ↓zf4, ↓ze9, ↓ze7, ↓zf2, ↓zed, ↓zf3, ↓zec, ↓zf1, ↓zee, ↓zef, ↓zfe, ↓zf9, ↓zfa, ↓zf8, ↓zf7, ↓zea, ↓zeb, ↓zf0, ↓z100, ↓zff, ↓z1q, ↓z1q', ↓z12, ↓z12', ↓z2a, ↓z2a', ↓z1c, ↓z7, ↓z15, ↓z21, ↓ze, ↓z19, ↓z26, ↓z3, ↓zc, ↓zd, ↓zf, ↓z27, ↓z8, WO_some, WO_none, IfO_true, IfO_false, z10, za, z0, z1a, z17, z11, z28, z29, z1d, z1f, z23, z1b, ↓z73, ↓z74, ↓z6f, ↓z71, ↓z72, ↓z31, ↓z30, ↓z2f, ↓z2c, ↓z2e, ↓z78, ↓z76, ↓z75, ↓z79, ↓z77, if_ok, if_bl, if_and, if_or, getV, getB, opBin, opCmp, opIdx, opCut, opBi, tru, look, look_r, eqD, eqDs, Z.pure, pures, dep, deps, put_m, put_nx, new_m, new_nx, putIx, putOwn, insOf, lkN, putL, putN, thaw, getO, ixOf, LIM, B64, asI, Z.b2, z6d, z6e, z4a, z4b, z48, z49, z69, z6a, z32, z33, z34, z35, z36, z37, z42, z43, z3e, z3f, z40, z41, z38, z39, z3a, z3b, z3c, z3d, z44, z45, z6b, z6c, z52, z53, z56, z57, z58, z66, z67, z68, z5e, z5f, z60, z59, z5a, z64, z65, z50, z51, z4e, z4f, z54, z55, z61, z62, z63, z5b, z5c, z5d, z4c, z4d, z46, z47, z82, z83, z84, z85, z86, z87, z88, zbc, zbb, zba, t_prp_0_7, z8a, z89, z7a, z7b, z7c, z7d, z7e, z7f, z80, z81, z8b, z8c, z97, za2, zad, zb5, zb6, zb7, zb8, zb9, z8d, z8e, z8f, z90, z91, z92, z93, z94, z95, z96, z98, z99, z9a, z9b, z9c, z9d, z9e, z9f, za0, za1, za3, za4, za5, za6, za7, za8, za9, zaa, zab, zac, zae, zaf, zb0, zb1, zb2, zb3, zb4]
      exact ⟨rfl, .put t, rfl, hl⟩
  · simp (config := {maxSteps := 4000000, dsimp := false, implicitDefEqProofs := false}) [↓zd2, ↓ze0, ↓zc2, ↓zcc, ↓zc0, ↓zd7, ↓zd9, ↓zc5, ↓zc6, ↓zbd, ↓zda, ↓zd0, ↓zc3, ↓zc4, ↓zd5, ↓zd6, ↓zdb, ↓zbe, ↓zce, ↓zdf, ↓zde, ↓zdd, ↓zdc, ↓ze1, ↓zd3, ↓zd4, ↓zc8, ↓zbf, ↓zc1, ↓zcf, ↓zca, ↓zcb, ↓zd1, ↓zcd, ↓zc9, ↓zd8, ↓zc7, ↓w_compL_nil, ↓w_compL_cons, ↓ze4, ↓ze3, ↓ze2, ↓ze5, ↓z106, ↓z103, ↓z105, ↓z101, ↓z107, ↓z104, ↓z102, ↓ze8, ↓zf5, ↓zfd, ↓zf6, ↓zfb, ↓ze6, ↓zfc, ↓zf4, ↓ze9, ↓ze7, ↓zf2, ↓zed, ↓zf3, ↓zec, ↓zf1, ↓zee, ↓zef, ↓zfe, ↓zf9, ↓zfa, ↓zf8, ↓zf7, ↓zea, ↓zeb, ↓zf0, ↓z100, ↓zff, ↓z1q, ↓z1q', ↓z12, ↓z12', ↓z2a, ↓z2a', ↓z1c, ↓z7, ↓z15, ↓z21, ↓ze, ↓z19, ↓z26, ↓z3, ↓zc, ↓zd, ↓zf, ↓z27, ↓z8, WO_some, WO_none, IfO_true, IfO_false, z10, za, z0, z1a, z17, z11, z28, z29, z1d, z1f, z23, z1b, ↓z73, ↓z74, ↓z6f, ↓z71, ↓z72, ↓z31, ↓z30, ↓z2f, ↓z2c, ↓z2e, ↓z78, ↓z76, ↓z75, ↓z79, ↓z77, if_ok, if_bl, if_and, if_or, getV, getB, opBin, opCmp, opIdx, opCut, opBi, tru, look, look_r, eqD, eqDs, Z.pure, pures, dep, deps, put_m, put_nx, new_m, new_nx, putIx, putOwn, insOf, lkN, putL, putN, thaw, getO, ixOf, LIM, B64, asI, Z.b2, z6d, z6e, z4a, z4b, z48, z49, z69, z6a, z32, z33, z34, z35, z36, z37, z42, z43, z3e, z3f, z40, z41, z38, z39, z3a, z3b, z3c, z3d, z44, z45, z6b, z6c, z52, z53, z56, z57, z58, z66, z67, z68, z5e, z5f, z60, z59, z5a, z64, z65, z50, z51, z4e, z4f, z54, z55, z61, z62, z63, z5b, z5c, z5d, z4c, z4d, z46, z47, z82, z83, z84, z85, z86, z87, z88, zbc, zbb, zba, t_prp_0_7, z8a, z89, z7a, z7b, z7c, z7d, z7e, z7f, z80, z81, z8b, z8c, z97, za2, zad, zb5, zb6, zb7, zb8, zb9, z8d, z8e, z8f, z90, z91, z92, z93, z94, z95, z96, z98, z99, z9a, z9b, z9c, z9d, z9e, z9f, za0, za1, za3, za4, za5, za6, za7, za8, za9, zaa, zab, zac, zae, zaf, zb0, zb1, zb2, zb3, zb4, h]
    refine (piece_ok q _ M).go ?_
    rintro _ M2 ⟨rfl, s, n, t, rfl, hs, hn, hl⟩
    simp (config := {maxSteps := 4000000, dsimp := false, implicitDefEqProofs := false}) [↓zd2, ↓ze0, ↓zc2, ↓zcc, ↓zc0, ↓zd7, ↓zd9, ↓zc5, ↓zc6, ↓zbd, ↓zda, ↓zd0, ↓zc3, ↓zc4, ↓zd5, ↓zd6, ↓zdb, ↓zbe, ↓zce, ↓zdf, ↓zde, ↓zdd, ↓zdc, ↓ze1, ↓zd3, ↓zd4, ↓zc8, ↓zbf, ↓zc1, ↓zcf, ↓zca, ↓zcb, ↓zd1, ↓zcd, ↓zc9, ↓zd8, ↓zc7, ↓w_compL_nil, ↓w_compL_cons, ↓ze4, ↓ze3, ↓ze2, ↓ze5, ↓z106, ↓z103, ↓z105, ↓z101, ↓z107, ↓z104, ↓z102, ↓ze8, ↓zf5, ↓zfd, ↓zf6, ↓zfb, ↓ze6, ↓zfc, ↓zf4, ↓ze9, ↓ze7, ↓zf2, ↓zed, ↓zf3, ↓zec, ↓zf1, ↓zee, ↓zef, ↓zfe, ↓zf9, ↓zfa, ↓zf8, ↓zf7, ↓zea, ↓zeb, ↓zf0, ↓z100, ↓zff, ↓z1q, ↓z1q', ↓z12, ↓z12', ↓z2a, ↓z2a', ↓z1c, ↓z7, ↓z15, ↓z21, ↓ze, ↓z19, ↓z26, ↓z3, ↓zc, ↓zd, ↓zf, ↓z27, ↓z8, WO_some, WO_none, IfO_true, IfO_false, z10, za, z0, z1a, z17, z11, z28, z29, z1d, z1f, z23, z1b, ↓z73, ↓z74, ↓z6f, ↓z71, ↓z72, ↓z31, ↓z30, ↓z2f, ↓z2c, ↓z2e, ↓z78, ↓z76, ↓z75, ↓z79, ↓z77, if_ok, if_bl, if_and, if_or, getV, getB, opBin, opCmp, opIdx, opCut, opBi, tru, look, look_r, eqD, eqDs, Z.pure, pures, dep, deps, put_m, put_nx, new_m, new_nx, putIx, putOwn, insOf, lkN, putL, putN, thaw, getO, ixOf, LIM, B64, asI, Z.b2, z6d, z6e, z4a, z4b, z48, z49, z69, z6a, z32, z33, z34, z35, z36, z37, z42, z43, z3e, z3f, z40, z41, z38, z39, z3a, z3b, z3c, z3d, z44, z45, z6b, z6c, z52, z53, z56, z57, z58, z66, z67, z68, z5e, z5f, z60, z59, z5a, z64, z65, z50, z51, z4e, z4f, z54, z55, z61, z62, z63, z5b, z5c, z5d, z4c, z4d, z46, z47, z82, z83, z84, z85, z86, z87, z88, zbc, zbb, zba, t_prp_0_7, z8a, z89, z7a, z7b, z7c, z7d, z7e, z7f, z80, z81, z8b, z8c, z97, za2, zad, zb5, zb6, zb7, zb8, zb9, z8d, z8e, z8f, z90, z91, z92, z93, z94, z95, z96, z98, z99, z9a, z9b, z9c, z9d, z9e, z9f, za0, za1, za3, za4, za5, za6, za7, za8, za9, zaa, zab, zac, zae, zaf, zb0, zb1, zb2, zb3, zb4]
    exact ⟨rfl, .put t, rfl, hl⟩
  · by_cases h11 : c / 4 % 11 = 10
    · simp (config := {maxSteps := 4000000, dsimp := false, implicitDefEqProofs := false}) [↓zd2, ↓ze0, ↓zc2, ↓zcc, ↓zc0, ↓zd7, ↓zd9, ↓zc5, ↓zc6, ↓zbd, ↓zda, ↓zd0, ↓zc3, ↓zc4, ↓zd5, ↓zd6, ↓zdb, ↓zbe, ↓zce, ↓zdf, ↓zde, ↓zdd, ↓zdc, ↓ze1, ↓zd3, ↓zd4, ↓zc8, ↓zbf, ↓zc1, ↓zcf, ↓zca, ↓zcb, ↓zd1, ↓zcd, ↓zc9, ↓zd8, ↓zc7, ↓w_compL_nil, ↓w_compL_cons, ↓ze4, ↓ze3, ↓ze2, ↓ze5, ↓z106, ↓z103, ↓z105, ↓z101, ↓z107, ↓z104, ↓z102, ↓ze8, ↓zf5, ↓zfd, ↓zf6, ↓zfb, ↓ze6, ↓zfc, ↓zf4, ↓ze9, ↓ze7, ↓zf2, ↓zed, ↓zf3, ↓zec, ↓zf1, ↓zee, ↓zef, ↓zfe, ↓zf9, ↓zfa, ↓zf8, ↓zf7, ↓zea, ↓zeb, ↓zf0, ↓z100, ↓zff, ↓z1q, ↓z1q', ↓z12, ↓z12', ↓z2a, ↓z2a', ↓z1c, ↓z7, ↓z15, ↓z21, ↓ze, ↓z19, ↓z26, ↓z3, ↓zc, ↓zd, ↓zf, ↓z27, ↓z8, WO_some, WO_none, IfO_true, IfO_false, z10, za, z0, z1a, z17, z11, z28, z29, z1d, z1f, z23, z1b, ↓z73, ↓z74, ↓z6f, ↓z71, ↓z72, ↓z31, ↓z30, ↓z2f, ↓z2c, ↓z2e, ↓z78, ↓z76, ↓z75, ↓z79, ↓z77, if_ok, if_bl, if_and, if_or, getV, getB, opBin, opCmp, opIdx, opCut, opBi, tru, look, look_r, eqD, eqDs, Z.pure, pures, dep, deps, put_m, put_nx, new_m, new_nx, putIx, putOwn, insOf, lkN, putL, putN, thaw, getO, ixOf, LIM, B64, asI, Z.b2, z6d, z6e, z4a, z4b, z48, z49, z69, z6a, z32, z33, z34, z35, z36, z37, z42, z43, z3e, z3f, z40, z41, z38, z39, z3a, z3b, z3c, z3d, z44, z45, z6b, z6c, z52, z53, z56, z57, z58, z66, z67, z68, z5e, z5f, z60, z59, z5a, z64, z65, z50, z51, z4e, z4f, z54, z55, z61, z62, z63, z5b, z5c, z5d, z4c, z4d, z46, z47, z82, z83, z84, z85, z86, z87, z88, zbc, zbb, zba, t_prp_0_7, z8a, z89, z7a, z7b, z7c, z7d, z7e, z7f, z80, z81, z8b, z8c, z97, za2, zad, zb5, zb6, zb7, zb8, zb9, z8d, z8e, z8f, z90, z91, z92, z93, z94, z95, z96, z98, z99, z9a, z9b, z9c, z9d, z9e, z9f, za0, za1, za3, za4, za5, za6, za7, za8, za9, zaa, zab, zac, zae, zaf, zb0, zb1, zb2, zb3, zb4, h, h11]
      refine (piece_ok q _ M).go ?_
      rintro _ M2 ⟨rfl, s, n, t, rfl, hs, hn, hl⟩
      simp (config := {maxSteps := 4000000, dsimp := false, implicitDefEqProofs := false}) [↓zd2, ↓ze0, ↓zc2, ↓zcc, ↓zc0, ↓zd7, ↓zd9, ↓zc5, ↓zc6, ↓zbd, ↓zda, ↓zd0, ↓zc3, ↓zc4, ↓zd5, ↓zd6, ↓zdb, ↓zbe, ↓zce, ↓zdf, ↓zde, ↓zdd, ↓zdc, ↓ze1, ↓zd3, ↓zd4, ↓zc8, ↓zbf, ↓zc1, ↓zcf, ↓zca, ↓zcb, ↓zd1, ↓zcd, ↓zc9, ↓zd8, ↓zc7, ↓w_compL_nil, ↓w_compL_cons, ↓ze4, ↓ze3, ↓ze2, ↓ze5, ↓z106, ↓z103, ↓z105, ↓z101, ↓z107, ↓z104, ↓z102, ↓ze8, ↓zf5, ↓zfd, ↓zf6, ↓zfb, ↓ze6, ↓zfc, ↓zf4, ↓ze9, ↓ze7, ↓zf2, ↓zed, ↓zf3, ↓zec, ↓zf1, ↓zee, ↓zef, ↓zfe, ↓zf9, ↓zfa, ↓zf8, ↓zf7, ↓zea, ↓zeb, ↓zf0, ↓z100, ↓zff, ↓z1q, ↓z1q', ↓z12, ↓z12', ↓z2a, ↓z2a', ↓z1c, ↓z7, ↓z15, ↓z21, ↓ze, ↓z19, ↓z26, ↓z3, ↓zc, ↓zd, ↓zf, ↓z27, ↓z8, WO_some, WO_none, IfO_true, IfO_false, z10, za, z0, z1a, z17, z11, z28, z29, z1d, z1f, z23, z1b, ↓z73, ↓z74, ↓z6f, ↓z71, ↓z72, ↓z31, ↓z30, ↓z2f, ↓z2c, ↓z2e, ↓z78, ↓z76, ↓z75, ↓z79, ↓z77, if_ok, if_bl, if_and, if_or, getV, getB, opBin, opCmp, opIdx, opCut, opBi, tru, look, look_r, eqD, eqDs, Z.pure, pures, dep, deps, put_m, put_nx, new_m, new_nx, putIx, putOwn, insOf, lkN, putL, putN, thaw, getO, ixOf, LIM, B64, asI, Z.b2, z6d, z6e, z4a, z4b, z48, z49, z69, z6a, z32, z33, z34, z35, z36, z37, z42, z43, z3e, z3f, z40, z41, z38, z39, z3a, z3b, z3c, z3d, z44, z45, z6b, z6c, z52, z53, z56, z57, z58, z66, z67, z68, z5e, z5f, z60, z59, z5a, z64, z65, z50, z51, z4e, z4f, z54, z55, z61, z62, z63, z5b, z5c, z5d, z4c, z4d, z46, z47, z82, z83, z84, z85, z86, z87, z88, zbc, zbb, zba, t_prp_0_7, z8a, z89, z7a, z7b, z7c, z7d, z7e, z7f, z80, z81, z8b, z8c, z97, za2, zad, zb5, zb6, zb7, zb8, zb9, z8d, z8e, z8f, z90, z91, z92, z93, z94, z95, z96, z98, z99, z9a, z9b, z9c, z9d, z9e, z9f, za0, za1, za3, za4, za5, za6, za7, za8, za9, zaa, zab, zac, zae, zaf, zb0, zb1, zb2, zb3, zb4, h11]
      exact ⟨rfl, .drop s_end n, rfl, .inr rfl, hn⟩
    · simp (config := {maxSteps := 4000000, dsimp := false, implicitDefEqProofs := false}) [↓zd2, ↓ze0, ↓zc2, ↓zcc, ↓zc0, ↓zd7, ↓zd9, ↓zc5, ↓zc6, ↓zbd, ↓zda, ↓zd0, ↓zc3, ↓zc4, ↓zd5, ↓zd6, ↓zdb, ↓zbe, ↓zce, ↓zdf, ↓zde, ↓zdd, ↓zdc, ↓ze1, ↓zd3, ↓zd4, ↓zc8, ↓zbf, ↓zc1, ↓zcf, ↓zca, ↓zcb, ↓zd1, ↓zcd, ↓zc9, ↓zd8, ↓zc7, ↓w_compL_nil, ↓w_compL_cons, ↓ze4, ↓ze3, ↓ze2, ↓ze5, ↓z106, ↓z103, ↓z105, ↓z101, ↓z107, ↓z104, ↓z102, ↓ze8, ↓zf5, ↓zfd, ↓zf6, ↓zfb, ↓ze6, ↓zfc, ↓zf4, ↓ze9, ↓ze7, ↓zf2, ↓zed, ↓zf3, ↓zec, ↓zf1, ↓zee, ↓zef, ↓zfe, ↓zf9, ↓zfa, ↓zf8, ↓zf7, ↓zea, ↓zeb, ↓zf0, ↓z100, ↓zff, ↓z1q, ↓z1q', ↓z12, ↓z12', ↓z2a, ↓z2a', ↓z1c, ↓z7, ↓z15, ↓z21, ↓ze, ↓z19, ↓z26, ↓z3, ↓zc, ↓zd, ↓zf, ↓z27, ↓z8, WO_some, WO_none, IfO_true, IfO_false, z10, za, z0, z1a, z17, z11, z28, z29, z1d, z1f, z23, z1b, ↓z73, ↓z74, ↓z6f, ↓z71, ↓z72, ↓z31, ↓z30, ↓z2f, ↓z2c, ↓z2e, ↓z78, ↓z76, ↓z75, ↓z79, ↓z77, if_ok, if_bl, if_and, if_or, getV, getB, opBin, opCmp, opIdx, opCut, opBi, tru, look, look_r, eqD, eqDs, Z.pure, pures, dep, deps, put_m, put_nx, new_m, new_nx, putIx, putOwn, insOf, lkN, putL, putN, thaw, getO, ixOf, LIM, B64, asI, Z.b2, z6d, z6e, z4a, z4b, z48, z49, z69, z6a, z32, z33, z34, z35, z36, z37, z42, z43, z3e, z3f, z40, z41, z38, z39, z3a, z3b, z3c, z3d, z44, z45, z6b, z6c, z52, z53, z56, z57, z58, z66, z67, z68, z5e, z5f, z60, z59, z5a, z64, z65, z50, z51, z4e, z4f, z54, z55, z61, z62, z63, z5b, z5c, z5d, z4c, z4d, z46, z47, z82, z83, z84, z85, z86, z87, z88, zbc, zbb, zba, t_prp_0_7, z8a, z89, z7a, z7b, z7c, z7d, z7e, z7f, z80, z81, z8b, z8c, z97, za2, zad, zb5, zb6, zb7, zb8, zb9, z8d, z8e, z8f, z90, z91, z92, z93, z94, z95, z96, z98, z99, z9a, z9b, z9c, z9d, z9e, z9f, za0, za1, za3, za4, za5, za6, za7, za8, za9, zaa, zab, zac, zae, zaf, zb0, zb1, zb2, zb3, zb4, h, h11]
      refine (piece_ok q _ M).go ?_
      rintro _ M2 ⟨rfl, s, n, t, rfl, hs, hn, hl⟩
      simp (config := {maxSteps := 4000000, dsimp := false, implicitDefEqProofs := false}) [↓zd2, ↓ze0, ↓zc2, ↓zcc, ↓zc0, ↓zd7, ↓zd9, ↓zc5, ↓zc6, ↓zbd, ↓zda, ↓zd0, ↓zc3, ↓zc4, ↓zd5, ↓zd6, ↓zdb, ↓zbe, ↓zce, ↓zdf, ↓zde, ↓zdd, ↓zdc, ↓ze1, ↓zd3, ↓zd4, ↓zc8, ↓zbf, ↓zc1, ↓zcf, ↓zca, ↓zcb, ↓zd1, ↓zcd, ↓zc9, ↓zd8, ↓zc7, ↓w_compL_nil, ↓w_compL_cons, ↓ze4, ↓ze3, ↓ze2, ↓ze5, ↓z106, ↓z103, ↓z105, ↓z101, ↓z107, ↓z104, ↓z102, ↓ze8, ↓zf5, ↓zfd, ↓zf6, ↓zfb, ↓ze6, ↓zfc, ↓zf4, ↓ze9, ↓ze7, ↓zf2, ↓zed, ↓zf3, ↓zec, ↓zf1, ↓zee, ↓zef, ↓zfe, ↓zf9, ↓zfa, ↓zf8, ↓zf7, ↓zea, ↓zeb, ↓zf0, ↓z100, ↓zff, ↓z1q, ↓z1q', ↓z12, ↓z12', ↓z2a, ↓z2a', ↓z1c, ↓z7, ↓z15, ↓z21, ↓ze, ↓z19, ↓z26, ↓z3, ↓zc, ↓zd, ↓zf, ↓z27, ↓z8, WO_some, WO_none, IfO_true, IfO_false, z10, za, z0, z1a, z17, z11, z28, z29, z1d, z1f, z23, z1b, ↓z73, ↓z74, ↓z6f, ↓z71, ↓z72, ↓z31, ↓z30, ↓z2f, ↓z2c, ↓z2e, ↓z78, ↓z76, ↓z75, ↓z79, ↓z77, if_ok, if_bl, if_and, if_or, getV, getB, opBin, opCmp, opIdx, opCut, opBi, tru, look, look_r, eqD, eqDs, Z.pure, pures, dep, deps, put_m, put_nx, new_m, new_nx, putIx, putOwn, insOf, lkN, putL, putN, thaw, getO, ixOf, LIM, B64, asI, Z.b2, z6d, z6e, z4a, z4b, z48, z49, z69, z6a, z32, z33, z34, z35, z36, z37, z42, z43, z3e, z3f, z40, z41, z38, z39, z3a, z3b, z3c, z3d, z44, z45, z6b, z6c, z52, z53, z56, z57, z58, z66, z67, z68, z5e, z5f, z60, z59, z5a, z64, z65, z50, z51, z4e, z4f, z54, z55, z61, z62, z63, z5b, z5c, z5d, z4c, z4d, z46, z47, z82, z83, z84, z85, z86, z87, z88, zbc, zbb, zba, t_prp_0_7, z8a, z89, z7a, z7b, z7c, z7d, z7e, z7f, z80, z81, z8b, z8c, z97, za2, zad, zb5, zb6, zb7, zb8, zb9, z8d, z8e, z8f, z90, z91, z92, z93, z94, z95, z96, z98, z99, z9a, z9b, z9c, z9d, z9e, z9f, za0, za1, za3, za4, za5, za6, za7, za8, za9, zaa, zab, zac, zae, zaf, zb0, zb1, zb2, zb3, zb4, h11]
      exact ⟨rfl, .drop s n, rfl, .inl hs, hn⟩
  · have on : onm (110 :: strI (c / 4 % 3)) := nm_on (by omega) (by omega)
    have l1 := sl (i := c / 4 % 3) (by omega) (by omega)
    have g1 := lg' (i := c / 4 % 3) (by omega) (by omega)
    simp (config := {maxSteps := 4000000, dsimp := false, implicitDefEqProofs := false}) [↓zd2, ↓ze0, ↓zc2, ↓zcc, ↓zc0, ↓zd7, ↓zd9, ↓zc5, ↓zc6, ↓zbd, ↓zda, ↓zd0, ↓zc3, ↓zc4, ↓zd5, ↓zd6, ↓zdb, ↓zbe, ↓zce, ↓zdf, ↓zde, ↓zdd, ↓zdc, ↓ze1, ↓zd3, ↓zd4, ↓zc8, ↓zbf, ↓zc1, ↓zcf, ↓zca, ↓zcb, ↓zd1, ↓zcd, ↓zc9, ↓zd8, ↓zc7, ↓w_compL_nil, ↓w_compL_cons, ↓ze4, ↓ze3, ↓ze2, ↓ze5, ↓z106, ↓z103, ↓z105, ↓z101, ↓z107, ↓z104, ↓z102, ↓ze8, ↓zf5, ↓zfd, ↓zf6, ↓zfb, ↓ze6, ↓zfc, ↓zf4, ↓ze9, ↓ze7, ↓zf2, ↓zed, ↓zf3, ↓zec, ↓zf1, ↓zee, ↓zef, ↓zfe, ↓zf9, ↓zfa, ↓zf8, ↓zf7, ↓zea, ↓zeb, ↓zf0, ↓z100, ↓zff, ↓z1q, ↓z1q', ↓z12, ↓z12', ↓z2a, ↓z2a', ↓z1c, ↓z7, ↓z15, ↓z21, ↓ze, ↓z19, ↓z26, ↓z3, ↓zc, ↓zd, ↓zf, ↓z27, ↓z8, WO_some, WO_none, IfO_true, IfO_false, z10, za, z0, z1a, z17, z11, z28, z29, z1d, z1f, z23, z1b, ↓z73, ↓z74, ↓z6f, ↓z71, ↓z72, ↓z31, ↓z30, ↓z2f, ↓z2c, ↓z2e, ↓z78, ↓z76, ↓z75, ↓z79, ↓z77, if_ok, if_bl, if_and, if_or, getV, getB, opBin, opCmp, opIdx, opCut, opBi, tru, look, look_r, eqD, eqDs, Z.pure, pures, dep, deps, put_m, put_nx, new_m, new_nx, putIx, putOwn, insOf, lkN, putL, putN, thaw, getO, ixOf, LIM, B64, asI, Z.b2, z6d, z6e, z4a, z4b, z48, z49, z69, z6a, z32, z33, z34, z35, z36, z37, z42, z43, z3e, z3f, z40, z41, z38, z39, z3a, z3b, z3c, z3d, z44, z45, z6b, z6c, z52, z53, z56, z57, z58, z66, z67, z68, z5e, z5f, z60, z59, z5a, z64, z65, z50, z51, z4e, z4f, z54, z55, z61, z62, z63, z5b, z5c, z5d, z4c, z4d, z46, z47, z82, z83, z84, z85, z86, z87, z88, zbc, zbb, zba, t_prp_0_7, z8a, z89, z7a, z7b, z7c, z7d, z7e, z7f, z80, z81, z8b, z8c, z97, za2, zad, zb5, zb6, zb7, zb8, zb9, z8d, z8e, z8f, z90, z91, z92, z93, z94, z95, z96, z98, z99, z9a, z9b, z9c, z9d, z9e, z9f, za0, za1, za3, za4, za5, za6, za7, za8, za9, zaa, zab, zac, zae, zaf, zb0, zb1, zb2, zb3, zb4, h, s_n, g1]
    repeat refine IfO.mk (by omega) ?_
    exact ⟨rfl, .sw _ _, rfl, on⟩
def EdG : Ed → Prop
  | .put t => t.length ≤ 200
  | .back k => 0 ≤ k ∧ k ≤ 65535
  | .drop s n => s ∈ sortW ∧ onm n
  | .sw n _ => onm n
theorem pd : s_put ≠ s_drop := by decide
theorem se : ¬ s_end ∈ sortW := by decide
theorem drawn_ok (q : Nat) (c : Int) (M : Sto) : WR (fun v M' => M' = M ∧ ∃ e, v = edD e ∧ EdG e) nX (callA tb.P (Cl (q + 4)) 18 [.int c] M) := by
  rw [c_law_drawn, z8]
  unfold b_law_drawn
  by_cases h : c % 5 = 4
  · simp (config := {maxSteps := 4000000, dsimp := false, implicitDefEqProofs := false}) [↓zd2, ↓ze0, ↓zc2, ↓zcc, ↓zc0, ↓zd7, ↓zd9, ↓zc5, ↓zc6, ↓zbd, ↓zda, ↓zd0, ↓zc3, ↓zc4, ↓zd5, ↓zd6, ↓zdb, ↓zbe, ↓zce, ↓zdf, ↓zde, ↓zdd, ↓zdc, ↓ze1, ↓zd3, ↓zd4, ↓zc8, ↓zbf, ↓zc1, ↓zcf, ↓zca, ↓zcb, ↓zd1, ↓zcd, ↓zc9, ↓zd8, ↓zc7, ↓w_compL_nil, ↓w_compL_cons, ↓ze4, ↓ze3, ↓ze2, ↓ze5, ↓z106, ↓z103, ↓z105, ↓z101, ↓z107, ↓z104, ↓z102, ↓ze8, ↓zf5, ↓zfd, ↓zf6, ↓zfb, ↓ze6, ↓zfc, ↓zf4, ↓ze9, ↓ze7, ↓zf2, ↓zed, ↓zf3, ↓zec, ↓zf1, ↓zee, ↓zef, ↓zfe, ↓zf9, ↓zfa, ↓zf8, ↓zf7, ↓zea, ↓zeb, ↓zf0, ↓z100, ↓zff, ↓z1q, ↓z1q', ↓z12, ↓z12', ↓z2a, ↓z2a', ↓z1c, ↓z7, ↓z15, ↓z21, ↓ze, ↓z19, ↓z26, ↓z3, ↓zc, ↓zd, ↓zf, ↓z27, ↓z8, WO_some, WO_none, IfO_true, IfO_false, z10, za, z0, z1a, z17, z11, z28, z29, z1d, z1f, z23, z1b, ↓z73, ↓z74, ↓z6f, ↓z71, ↓z72, ↓z31, ↓z30, ↓z2f, ↓z2c, ↓z2e, ↓z78, ↓z76, ↓z75, ↓z79, ↓z77, if_ok, if_bl, if_and, if_or, getV, getB, opBin, opCmp, opIdx, opCut, opBi, tru, look, look_r, eqD, eqDs, Z.pure, pures, dep, deps, put_m, put_nx, new_m, new_nx, putIx, putOwn, insOf, lkN, putL, putN, thaw, getO, ixOf, LIM, B64, asI, Z.b2, z6d, z6e, z4a, z4b, z48, z49, z69, z6a, z32, z33, z34, z35, z36, z37, z42, z43, z3e, z3f, z40, z41, z38, z39, z3a, z3b, z3c, z3d, z44, z45, z6b, z6c, z52, z53, z56, z57, z58, z66, z67, z68, z5e, z5f, z60, z59, z5a, z64, z65, z50, z51, z4e, z4f, z54, z55, z61, z62, z63, z5b, z5c, z5d, z4c, z4d, z46, z47, z82, z83, z84, z85, z86, z87, z88, zbc, zbb, zba, t_prp_0_7, z8a, z89, z7a, z7b, z7c, z7d, z7e, z7f, z80, z81, z8b, z8c, z97, za2, zad, zb5, zb6, zb7, zb8, zb9, z8d, z8e, z8f, z90, z91, z92, z93, z94, z95, z96, z98, z99, z9a, z9b, z9c, z9d, z9e, z9f, za0, za1, za3, za4, za5, za6, za7, za8, za9, zaa, zab, zac, zae, zaf, zb0, zb1, zb2, zb3, zb4, h]
    exact ⟨.back _, rfl, by omega, by omega⟩
  · simp (config := {maxSteps := 4000000, dsimp := false, implicitDefEqProofs := false}) [↓zd2, ↓ze0, ↓zc2, ↓zcc, ↓zc0, ↓zd7, ↓zd9, ↓zc5, ↓zc6, ↓zbd, ↓zda, ↓zd0, ↓zc3, ↓zc4, ↓zd5, ↓zd6, ↓zdb, ↓zbe, ↓zce, ↓zdf, ↓zde, ↓zdd, ↓zdc, ↓ze1, ↓zd3, ↓zd4, ↓zc8, ↓zbf, ↓zc1, ↓zcf, ↓zca, ↓zcb, ↓zd1, ↓zcd, ↓zc9, ↓zd8, ↓zc7, ↓w_compL_nil, ↓w_compL_cons, ↓ze4, ↓ze3, ↓ze2, ↓ze5, ↓z106, ↓z103, ↓z105, ↓z101, ↓z107, ↓z104, ↓z102, ↓ze8, ↓zf5, ↓zfd, ↓zf6, ↓zfb, ↓ze6, ↓zfc, ↓zf4, ↓ze9, ↓ze7, ↓zf2, ↓zed, ↓zf3, ↓zec, ↓zf1, ↓zee, ↓zef, ↓zfe, ↓zf9, ↓zfa, ↓zf8, ↓zf7, ↓zea, ↓zeb, ↓zf0, ↓z100, ↓zff, ↓z1q, ↓z1q', ↓z12, ↓z12', ↓z2a, ↓z2a', ↓z1c, ↓z7, ↓z15, ↓z21, ↓ze, ↓z19, ↓z26, ↓z3, ↓zc, ↓zd, ↓zf, ↓z27, ↓z8, WO_some, WO_none, IfO_true, IfO_false, z10, za, z0, z1a, z17, z11, z28, z29, z1d, z1f, z23, z1b, ↓z73, ↓z74, ↓z6f, ↓z71, ↓z72, ↓z31, ↓z30, ↓z2f, ↓z2c, ↓z2e, ↓z78, ↓z76, ↓z75, ↓z79, ↓z77, if_ok, if_bl, if_and, if_or, getV, getB, opBin, opCmp, opIdx, opCut, opBi, tru, look, look_r, eqD, eqDs, Z.pure, pures, dep, deps, put_m, put_nx, new_m, new_nx, putIx, putOwn, insOf, lkN, putL, putN, thaw, getO, ixOf, LIM, B64, asI, Z.b2, z6d, z6e, z4a, z4b, z48, z49, z69, z6a, z32, z33, z34, z35, z36, z37, z42, z43, z3e, z3f, z40, z41, z38, z39, z3a, z3b, z3c, z3d, z44, z45, z6b, z6c, z52, z53, z56, z57, z58, z66, z67, z68, z5e, z5f, z60, z59, z5a, z64, z65, z50, z51, z4e, z4f, z54, z55, z61, z62, z63, z5b, z5c, z5d, z4c, z4d, z46, z47, z82, z83, z84, z85, z86, z87, z88, zbc, zbb, zba, t_prp_0_7, z8a, z89, z7a, z7b, z7c, z7d, z7e, z7f, z80, z81, z8b, z8c, z97, za2, zad, zb5, zb6, zb7, zb8, zb9, z8d, z8e, z8f, z90, z91, z92, z93, z94, z95, z96, z98, z99, z9a, z9b, z9c, z9d, z9e, z9f, za0, za1, za3, za4, za5, za6, za7, za8, za9, zaa, zab, zac, zae, zaf, zb0, zb1, zb2, zb3, zb4, h]
    refine (edit_ok q _ M).go ?_
    rintro _ M2 ⟨rfl, e, rfl, he⟩
    cases e with
    | put t =>
      have h1 : (s_put = s_drop) = False := by decide
      simp (config := {maxSteps := 4000000, dsimp := false, implicitDefEqProofs := false}) [↓zd2, ↓ze0, ↓zc2, ↓zcc, ↓zc0, ↓zd7, ↓zd9, ↓zc5, ↓zc6, ↓zbd, ↓zda, ↓zd0, ↓zc3, ↓zc4, ↓zd5, ↓zd6, ↓zdb, ↓zbe, ↓zce, ↓zdf, ↓zde, ↓zdd, ↓zdc, ↓ze1, ↓zd3, ↓zd4, ↓zc8, ↓zbf, ↓zc1, ↓zcf, ↓zca, ↓zcb, ↓zd1, ↓zcd, ↓zc9, ↓zd8, ↓zc7, ↓w_compL_nil, ↓w_compL_cons, ↓ze4, ↓ze3, ↓ze2, ↓ze5, ↓z106, ↓z103, ↓z105, ↓z101, ↓z107, ↓z104, ↓z102, ↓ze8, ↓zf5, ↓zfd, ↓zf6, ↓zfb, ↓ze6, ↓zfc, ↓zf4, ↓ze9, ↓ze7, ↓zf2, ↓zed, ↓zf3, ↓zec, ↓zf1, ↓zee, ↓zef, ↓zfe, ↓zf9, ↓zfa, ↓zf8, ↓zf7, ↓zea, ↓zeb, ↓zf0, ↓z100, ↓zff, ↓z1q, ↓z1q', ↓z12, ↓z12', ↓z2a, ↓z2a', ↓z1c, ↓z7, ↓z15, ↓z21, ↓ze, ↓z19, ↓z26, ↓z3, ↓zc, ↓zd, ↓zf, ↓z27, ↓z8, WO_some, WO_none, IfO_true, IfO_false, z10, za, z0, z1a, z17, z11, z28, z29, z1d, z1f, z23, z1b, ↓z73, ↓z74, ↓z6f, ↓z71, ↓z72, ↓z31, ↓z30, ↓z2f, ↓z2c, ↓z2e, ↓z78, ↓z76, ↓z75, ↓z79, ↓z77, if_ok, if_bl, if_and, if_or, getV, getB, opBin, opCmp, opIdx, opCut, opBi, tru, look, look_r, eqD, eqDs, Z.pure, pures, dep, deps, put_m, put_nx, new_m, new_nx, putIx, putOwn, insOf, lkN, putL, putN, thaw, getO, ixOf, LIM, B64, asI, Z.b2, z6d, z6e, z4a, z4b, z48, z49, z69, z6a, z32, z33, z34, z35, z36, z37, z42, z43, z3e, z3f, z40, z41, z38, z39, z3a, z3b, z3c, z3d, z44, z45, z6b, z6c, z52, z53, z56, z57, z58, z66, z67, z68, z5e, z5f, z60, z59, z5a, z64, z65, z50, z51, z4e, z4f, z54, z55, z61, z62, z63, z5b, z5c, z5d, z4c, z4d, z46, z47, z82, z83, z84, z85, z86, z87, z88, zbc, zbb, zba, t_prp_0_7, z8a, z89, z7a, z7b, z7c, z7d, z7e, z7f, z80, z81, z8b, z8c, z97, za2, zad, zb5, zb6, zb7, zb8, zb9, z8d, z8e, z8f, z90, z91, z92, z93, z94, z95, z96, z98, z99, z9a, z9b, z9c, z9d, z9e, z9f, za0, za1, za3, za4, za5, za6, za7, za8, za9, zaa, zab, zac, zae, zaf, zb0, zb1, zb2, zb3, zb4, edD, h1]
      exact ⟨.put t, rfl, he⟩
    | back k => exact he.elim
    | drop s n =>
      obtain ⟨h1, h2⟩ := he
      by_cases h3 : s = s_end
      · simp (config := {maxSteps := 4000000, dsimp := false, implicitDefEqProofs := false}) [↓zd2, ↓ze0, ↓zc2, ↓zcc, ↓zc0, ↓zd7, ↓zd9, ↓zc5, ↓zc6, ↓zbd, ↓zda, ↓zd0, ↓zc3, ↓zc4, ↓zd5, ↓zd6, ↓zdb, ↓zbe, ↓zce, ↓zdf, ↓zde, ↓zdd, ↓zdc, ↓ze1, ↓zd3, ↓zd4, ↓zc8, ↓zbf, ↓zc1, ↓zcf, ↓zca, ↓zcb, ↓zd1, ↓zcd, ↓zc9, ↓zd8, ↓zc7, ↓w_compL_nil, ↓w_compL_cons, ↓ze4, ↓ze3, ↓ze2, ↓ze5, ↓z106, ↓z103, ↓z105, ↓z101, ↓z107, ↓z104, ↓z102, ↓ze8, ↓zf5, ↓zfd, ↓zf6, ↓zfb, ↓ze6, ↓zfc, ↓zf4, ↓ze9, ↓ze7, ↓zf2, ↓zed, ↓zf3, ↓zec, ↓zf1, ↓zee, ↓zef, ↓zfe, ↓zf9, ↓zfa, ↓zf8, ↓zf7, ↓zea, ↓zeb, ↓zf0, ↓z100, ↓zff, ↓z1q, ↓z1q', ↓z12, ↓z12', ↓z2a, ↓z2a', ↓z1c, ↓z7, ↓z15, ↓z21, ↓ze, ↓z19, ↓z26, ↓z3, ↓zc, ↓zd, ↓zf, ↓z27, ↓z8, WO_some, WO_none, IfO_true, IfO_false, z10, za, z0, z1a, z17, z11, z28, z29, z1d, z1f, z23, z1b, ↓z73, ↓z74, ↓z6f, ↓z71, ↓z72, ↓z31, ↓z30, ↓z2f, ↓z2c, ↓z2e, ↓z78, ↓z76, ↓z75, ↓z79, ↓z77, if_ok, if_bl, if_and, if_or, getV, getB, opBin, opCmp, opIdx, opCut, opBi, tru, look, look_r, eqD, eqDs, Z.pure, pures, dep, deps, put_m, put_nx, new_m, new_nx, putIx, putOwn, insOf, lkN, putL, putN, thaw, getO, ixOf, LIM, B64, asI, Z.b2, z6d, z6e, z4a, z4b, z48, z49, z69, z6a, z32, z33, z34, z35, z36, z37, z42, z43, z3e, z3f, z40, z41, z38, z39, z3a, z3b, z3c, z3d, z44, z45, z6b, z6c, z52, z53, z56, z57, z58, z66, z67, z68, z5e, z5f, z60, z59, z5a, z64, z65, z50, z51, z4e, z4f, z54, z55, z61, z62, z63, z5b, z5c, z5d, z4c, z4d, z46, z47, z82, z83, z84, z85, z86, z87, z88, zbc, zbb, zba, t_prp_0_7, z8a, z89, z7a, z7b, z7c, z7d, z7e, z7f, z80, z81, z8b, z8c, z97, za2, zad, zb5, zb6, zb7, zb8, zb9, z8d, z8e, z8f, z90, z91, z92, z93, z94, z95, z96, z98, z99, z9a, z9b, z9c, z9d, z9e, z9f, za0, za1, za3, za4, za5, za6, za7, za8, za9, zaa, zab, zac, zae, zaf, zb0, zb1, zb2, zb3, zb4, edD, h3]
        exact ⟨.back 0, rfl, by omega, by omega⟩
      · simp (config := {maxSteps := 4000000, dsimp := false, implicitDefEqProofs := false}) [↓zd2, ↓ze0, ↓zc2, ↓zcc, ↓zc0, ↓zd7, ↓zd9, ↓zc5, ↓zc6, ↓zbd, ↓zda, ↓zd0, ↓zc3, ↓zc4, ↓zd5, ↓zd6, ↓zdb, ↓zbe, ↓zce, ↓zdf, ↓zde, ↓zdd, ↓zdc, ↓ze1, ↓zd3, ↓zd4, ↓zc8, ↓zbf, ↓zc1, ↓zcf, ↓zca, ↓zcb, ↓zd1, ↓zcd, ↓zc9, ↓zd8, ↓zc7, ↓w_compL_nil, ↓w_compL_cons, ↓ze4, ↓ze3, ↓ze2, ↓ze5, ↓z106, ↓z103, ↓z105, ↓z101, ↓z107, ↓z104, ↓z102, ↓ze8, ↓zf5, ↓zfd, ↓zf6, ↓zfb, ↓ze6, ↓zfc, ↓zf4, ↓ze9, ↓ze7, ↓zf2, ↓zed, ↓zf3, ↓zec, ↓zf1, ↓zee, ↓zef, ↓zfe, ↓zf9, ↓zfa, ↓zf8, ↓zf7, ↓zea, ↓zeb, ↓zf0, ↓z100, ↓zff, ↓z1q, ↓z1q', ↓z12, ↓z12', ↓z2a, ↓z2a', ↓z1c, ↓z7, ↓z15, ↓z21, ↓ze, ↓z19, ↓z26, ↓z3, ↓zc, ↓zd, ↓zf, ↓z27, ↓z8, WO_some, WO_none, IfO_true, IfO_false, z10, za, z0, z1a, z17, z11, z28, z29, z1d, z1f, z23, z1b, ↓z73, ↓z74, ↓z6f, ↓z71, ↓z72, ↓z31, ↓z30, ↓z2f, ↓z2c, ↓z2e, ↓z78, ↓z76, ↓z75, ↓z79, ↓z77, if_ok, if_bl, if_and, if_or, getV, getB, opBin, opCmp, opIdx, opCut, opBi, tru, look, look_r, eqD, eqDs, Z.pure, pures, dep, deps, put_m, put_nx, new_m, new_nx, putIx, putOwn, insOf, lkN, putL, putN, thaw, getO, ixOf, LIM, B64, asI, Z.b2, z6d, z6e, z4a, z4b, z48, z49, z69, z6a, z32, z33, z34, z35, z36, z37, z42, z43, z3e, z3f, z40, z41, z38, z39, z3a, z3b, z3c, z3d, z44, z45, z6b, z6c, z52, z53, z56, z57, z58, z66, z67, z68, z5e, z5f, z60, z59, z5a, z64, z65, z50, z51, z4e, z4f, z54, z55, z61, z62, z63, z5b, z5c, z5d, z4c, z4d, z46, z47, z82, z83, z84, z85, z86, z87, z88, zbc, zbb, zba, t_prp_0_7, z8a, z89, z7a, z7b, z7c, z7d, z7e, z7f, z80, z81, z8b, z8c, z97, za2, zad, zb5, zb6, zb7, zb8, zb9, z8d, z8e, z8f, z90, z91, z92, z93, z94, z95, z96, z98, z99, z9a, z9b, z9c, z9d, z9e, z9f, za0, za1, za3, za4, za5, za6, za7, za8, za9, zaa, zab, zac, zae, zaf, zb0, zb1, zb2, zb3, zb4, edD, h3]
        exact ⟨.drop s n, rfl, h1.resolve_right h3, h2⟩
    | sw n b =>
      have h1 : (s_switch = s_drop) = False := by decide
      simp (config := {maxSteps := 4000000, dsimp := false, implicitDefEqProofs := false}) [↓zd2, ↓ze0, ↓zc2, ↓zcc, ↓zc0, ↓zd7, ↓zd9, ↓zc5, ↓zc6, ↓zbd, ↓zda, ↓zd0, ↓zc3, ↓zc4, ↓zd5, ↓zd6, ↓zdb, ↓zbe, ↓zce, ↓zdf, ↓zde, ↓zdd, ↓zdc, ↓ze1, ↓zd3, ↓zd4, ↓zc8, ↓zbf, ↓zc1, ↓zcf, ↓zca, ↓zcb, ↓zd1, ↓zcd, ↓zc9, ↓zd8, ↓zc7, ↓w_compL_nil, ↓w_compL_cons, ↓ze4, ↓ze3, ↓ze2, ↓ze5, ↓z106, ↓z103, ↓z105, ↓z101, ↓z107, ↓z104, ↓z102, ↓ze8, ↓zf5, ↓zfd, ↓zf6, ↓zfb, ↓ze6, ↓zfc, ↓zf4, ↓ze9, ↓ze7, ↓zf2, ↓zed, ↓zf3, ↓zec, ↓zf1, ↓zee, ↓zef, ↓zfe, ↓zf9, ↓zfa, ↓zf8, ↓zf7, ↓zea, ↓zeb, ↓zf0, ↓z100, ↓zff, ↓z1q, ↓z1q', ↓z12, ↓z12', ↓z2a, ↓z2a', ↓z1c, ↓z7, ↓z15, ↓z21, ↓ze, ↓z19, ↓z26, ↓z3, ↓zc, ↓zd, ↓zf, ↓z27, ↓z8, WO_some, WO_none, IfO_true, IfO_false, z10, za, z0, z1a, z17, z11, z28, z29, z1d, z1f, z23, z1b, ↓z73, ↓z74, ↓z6f, ↓z71, ↓z72, ↓z31, ↓z30, ↓z2f, ↓z2c, ↓z2e, ↓z78, ↓z76, ↓z75, ↓z79, ↓z77, if_ok, if_bl, if_and, if_or, getV, getB, opBin, opCmp, opIdx, opCut, opBi, tru, look, look_r, eqD, eqDs, Z.pure, pures, dep, deps, put_m, put_nx, new_m, new_nx, putIx, putOwn, insOf, lkN, putL, putN, thaw, getO, ixOf, LIM, B64, asI, Z.b2, z6d, z6e, z4a, z4b, z48, z49, z69, z6a, z32, z33, z34, z35, z36, z37, z42, z43, z3e, z3f, z40, z41, z38, z39, z3a, z3b, z3c, z3d, z44, z45, z6b, z6c, z52, z53, z56, z57, z58, z66, z67, z68, z5e, z5f, z60, z59, z5a, z64, z65, z50, z51, z4e, z4f, z54, z55, z61, z62, z63, z5b, z5c, z5d, z4c, z4d, z46, z47, z82, z83, z84, z85, z86, z87, z88, zbc, zbb, zba, t_prp_0_7, z8a, z89, z7a, z7b, z7c, z7d, z7e, z7f, z80, z81, z8b, z8c, z97, za2, zad, zb5, zb6, zb7, zb8, zb9, z8d, z8e, z8f, z90, z91, z92, z93, z94, z95, z96, z98, z99, z9a, z9b, z9c, z9d, z9e, z9f, za0, za1, za3, za4, za5, za6, za7, za8, za9, zaa, zab, zac, zae, zaf, zb0, zb1, zb2, zb3, zb4, edD, h1]
      exact ⟨.sw n b, rfl, he⟩
end Q


set_option Elab.async false
set_option linter.all false
set_option autoImplicit false
set_option maxRecDepth 100000
set_option maxHeartbeats 4000000
namespace Q
open PySem L2 Z
def lineW : Ed → W
  | .put t => s_put_ ++ t
  | .back k => s_back_ ++ strI k
  | .drop s n => s_drop_ ++ (s ++ (32 :: n))
  | .sw n b => s_switch_ ++ (n ++ (32 :: (if b then s_on else s_off)))
theorem so_len {s : W} (h : s ∈ sortW) : s.length ≤ 6 := by
  simp [sortW] at h
  rcases h with h | h | h <;> subst h <;> decide
theorem on_len {n : W} (h : onm n) : n.length = 2 := by rcases h with h | h | h <;> subst h <;> rfl
theorem bk_str {k : Int} (h0 : 0 ≤ k) : ∃ n : Nat, k = n ∧ strI k = TL.numL n := ⟨k.toNat, by omega, by
  obtain ⟨n, rfl⟩ : ∃ n : Nat, k = n := ⟨k.toNat, by omega⟩
  show (toString (n : Int)).toList.map Char.toNat = _
  rw [show ((n : Int).toNat) = n by omega]
  unfold TL.numL
  congr 1
  show (Int.repr (n : Int)).toList = _
  show (Nat.repr n).toList = _
  unfold Nat.repr
  simp⟩
theorem bk_len {k : Int} (h0 : 0 ≤ k) (h1 : k ≤ 65535) : (strI k).length ≤ 5 := by
  obtain ⟨n, rfl, e⟩ := bk_str h0
  rw [e]
  exact TL.numL_len (by omega) (by omega)
theorem line_ok (q : Nat) (e : Ed) (he : EdG e) (M : Sto) : callA tb.P (Cl (q + 1)) 19 [edD e] M = .ok (.str (lineW e)) M := by
  apply WR.eqv
  rw [c_law_line, z8]
  unfold b_law_line
  have h1 : (s_drop = s_put) = False := by decide
  have h2 : (s_drop = s_back) = False := by decide
  have h3 : (s_switch = s_put) = False := by decide
  have h4 : (s_switch = s_back) = False := by decide
  have h5 : (s_switch = s_drop) = False := by decide
  have h6 : (s_back = s_put) = False := by decide
  cases e with
  | put t =>
    have he : t.length ≤ 200 := he
    simp (config := {maxSteps := 4000000, dsimp := false, implicitDefEqProofs := false}) [↓zd2, ↓ze0, ↓zc2, ↓zcc, ↓zc0, ↓zd7, ↓zd9, ↓zc5, ↓zc6, ↓zbd, ↓zda, ↓zd0, ↓zc3, ↓zc4, ↓zd5, ↓zd6, ↓zdb, ↓zbe, ↓zce, ↓zdf, ↓zde, ↓zdd, ↓zdc, ↓ze1, ↓zd3, ↓zd4, ↓zc8, ↓zbf, ↓zc1, ↓zcf, ↓zca, ↓zcb, ↓zd1, ↓zcd, ↓zc9, ↓zd8, ↓zc7, ↓w_compL_nil, ↓w_compL_cons, ↓ze4, ↓ze3, ↓ze2, ↓ze5, ↓z106, ↓z103, ↓z105, ↓z101, ↓z107, ↓z104, ↓z102, ↓ze8, ↓zf5, ↓zfd, ↓zf6, ↓zfb, ↓ze6, ↓zfc, ↓zf4, ↓ze9, ↓ze7, ↓zf2, ↓zed, ↓zf3, ↓zec, ↓zf1, ↓zee, ↓zef, ↓zfe, ↓zf9, ↓zfa, ↓zf8, ↓zf7, ↓zea, ↓zeb, ↓zf0, ↓z100, ↓zff, ↓z1q, ↓z1q', ↓z12, ↓z12', ↓z2a, ↓z2a', ↓z1c, ↓z7, ↓z15, ↓z21, ↓ze, ↓z19, ↓z26, ↓z3, ↓zc, ↓zd, ↓zf, ↓z27, ↓z8, WO_some, WO_none, IfO_true, IfO_false, z10, za, z0, z1a, z17, z11, z28, z29, z1d, z1f, z23, z1b, ↓z73, ↓z74, ↓z6f, ↓z71, ↓z72, ↓z31, ↓z30, ↓z2f, ↓z2c, ↓z2e, ↓z78, ↓z76, ↓z75, ↓z79, ↓z77, if_ok, if_bl, if_and, if_or, getV, getB, opBin, opCmp, opIdx, opCut, opBi, tru, look, look_r, eqD, eqDs, Z.pure, pures, dep, deps, put_m, put_nx, new_m, new_nx, putIx, putOwn, insOf, lkN, putL, putN, thaw, getO, ixOf, LIM, B64, asI, Z.b2, z6d, z6e, z4a, z4b, z48, z49, z69, z6a, z32, z33, z34, z35, z36, z37, z42, z43, z3e, z3f, z40, z41, z38, z39, z3a, z3b, z3c, z3d, z44, z45, z6b, z6c, z52, z53, z56, z57, z58, z66, z67, z68, z5e, z5f, z60, z59, z5a, z64, z65, z50, z51, z4e, z4f, z54, z55, z61, z62, z63, z5b, z5c, z5d, z4c, z4d, z46, z47, z82, z83, z84, z85, z86, z87, z88, zbc, zbb, zba, t_prp_0_7, z8a, z89, z7a, z7b, z7c, z7d, z7e, z7f, z80, z81, z8b, z8c, z97, za2, zad, zb5, zb6, zb7, zb8, zb9, z8d, z8e, z8f, z90, z91, z92, z93, z94, z95, z96, z98, z99, z9a, z9b, z9c, z9d, z9e, z9f, za0, za1, za3, za4, za5, za6, za7, za8, za9, zaa, zab, zac, zae, zaf, zb0, zb1, zb2, zb3, zb4, edD, s_put_]
    repeat refine IfO.mk (by omega) ?_
    simp [lineW, s_put_, s_back_, s_drop_, s_switch_, s_put, s_back, s_drop, s_switch, s__, s_on, s_off, joinL]
  | back k =>
    have hl := bk_len he.1 he.2
    obtain ⟨g1, g2⟩ := he
    have g := lg' g1 (by omega)
    simp (config := {maxSteps := 4000000, dsimp := false, implicitDefEqProofs := false}) [↓zd2, ↓ze0, ↓zc2, ↓zcc, ↓zc0, ↓zd7, ↓zd9, ↓zc5, ↓zc6, ↓zbd, ↓zda, ↓zd0, ↓zc3, ↓zc4, ↓zd5, ↓zd6, ↓zdb, ↓zbe, ↓zce, ↓zdf, ↓zde, ↓zdd, ↓zdc, ↓ze1, ↓zd3, ↓zd4, ↓zc8, ↓zbf, ↓zc1, ↓zcf, ↓zca, ↓zcb, ↓zd1, ↓zcd, ↓zc9, ↓zd8, ↓zc7, ↓w_compL_nil, ↓w_compL_cons, ↓ze4, ↓ze3, ↓ze2, ↓ze5, ↓z106, ↓z103, ↓z105, ↓z101, ↓z107, ↓z104, ↓z102, ↓ze8, ↓zf5, ↓zfd, ↓zf6, ↓zfb, ↓ze6, ↓zfc, ↓zf4, ↓ze9, ↓ze7, ↓zf2, ↓zed, ↓zf3, ↓zec, ↓zf1, ↓zee, ↓zef, ↓zfe, ↓zf9, ↓zfa, ↓zf8, ↓zf7, ↓zea, ↓zeb, ↓zf0, ↓z100, ↓zff, ↓z1q, ↓z1q', ↓z12, ↓z12', ↓z2a, ↓z2a', ↓z1c, ↓z7, ↓z15, ↓z21, ↓ze, ↓z19, ↓z26, ↓z3, ↓zc, ↓zd, ↓zf, ↓z27, ↓z8, WO_some, WO_none, IfO_true, IfO_false, z10, za, z0, z1a, z17, z11, z28, z29, z1d, z1f, z23, z1b, ↓z73, ↓z74, ↓z6f, ↓z71, ↓z72, ↓z31, ↓z30, ↓z2f, ↓z2c, ↓z2e, ↓z78, ↓z76, ↓z75, ↓z79, ↓z77, if_ok, if_bl, if_and, if_or, getV, getB, opBin, opCmp, opIdx, opCut, opBi, tru, look, look_r, eqD, eqDs, Z.pure, pures, dep, deps, put_m, put_nx, new_m, new_nx, putIx, putOwn, insOf, lkN, putL, putN, thaw, getO, ixOf, LIM, B64, asI, Z.b2, z6d, z6e, z4a, z4b, z48, z49, z69, z6a, z32, z33, z34, z35, z36, z37, z42, z43, z3e, z3f, z40, z41, z38, z39, z3a, z3b, z3c, z3d, z44, z45, z6b, z6c, z52, z53, z56, z57, z58, z66, z67, z68, z5e, z5f, z60, z59, z5a, z64, z65, z50, z51, z4e, z4f, z54, z55, z61, z62, z63, z5b, z5c, z5d, z4c, z4d, z46, z47, z82, z83, z84, z85, z86, z87, z88, zbc, zbb, zba, t_prp_0_7, z8a, z89, z7a, z7b, z7c, z7d, z7e, z7f, z80, z81, z8b, z8c, z97, za2, zad, zb5, zb6, zb7, zb8, zb9, z8d, z8e, z8f, z90, z91, z92, z93, z94, z95, z96, z98, z99, z9a, z9b, z9c, z9d, z9e, z9f, za0, za1, za3, za4, za5, za6, za7, za8, za9, zaa, zab, zac, zae, zaf, zb0, zb1, zb2, zb3, zb4, edD, h6, g, s_back_]
    repeat refine IfO.mk (by omega) ?_
    simp [lineW, s_put_, s_back_, s_drop_, s_switch_, s_put, s_back, s_drop, s_switch, s__, s_on, s_off, joinL]
  | drop s n =>
    have l1 := so_len he.1
    have l2 := on_len he.2
    simp (config := {maxSteps := 4000000, dsimp := false, implicitDefEqProofs := false}) [↓zd2, ↓ze0, ↓zc2, ↓zcc, ↓zc0, ↓zd7, ↓zd9, ↓zc5, ↓zc6, ↓zbd, ↓zda, ↓zd0, ↓zc3, ↓zc4, ↓zd5, ↓zd6, ↓zdb, ↓zbe, ↓zce, ↓zdf, ↓zde, ↓zdd, ↓zdc, ↓ze1, ↓zd3, ↓zd4, ↓zc8, ↓zbf, ↓zc1, ↓zcf, ↓zca, ↓zcb, ↓zd1, ↓zcd, ↓zc9, ↓zd8, ↓zc7, ↓w_compL_nil, ↓w_compL_cons, ↓ze4, ↓ze3, ↓ze2, ↓ze5, ↓z106, ↓z103, ↓z105, ↓z101, ↓z107, ↓z104, ↓z102, ↓ze8, ↓zf5, ↓zfd, ↓zf6, ↓zfb, ↓ze6, ↓zfc, ↓zf4, ↓ze9, ↓ze7, ↓zf2, ↓zed, ↓zf3, ↓zec, ↓zf1, ↓zee, ↓zef, ↓zfe, ↓zf9, ↓zfa, ↓zf8, ↓zf7, ↓zea, ↓zeb, ↓zf0, ↓z100, ↓zff, ↓z1q, ↓z1q', ↓z12, ↓z12', ↓z2a, ↓z2a', ↓z1c, ↓z7, ↓z15, ↓z21, ↓ze, ↓z19, ↓z26, ↓z3, ↓zc, ↓zd, ↓zf, ↓z27, ↓z8, WO_some, WO_none, IfO_true, IfO_false, z10, za, z0, z1a, z17, z11, z28, z29, z1d, z1f, z23, z1b, ↓z73, ↓z74, ↓z6f, ↓z71, ↓z72, ↓z31, ↓z30, ↓z2f, ↓z2c, ↓z2e, ↓z78, ↓z76, ↓z75, ↓z79, ↓z77, if_ok, if_bl, if_and, if_or, getV, getB, opBin, opCmp, opIdx, opCut, opBi, tru, look, look_r, eqD, eqDs, Z.pure, pures, dep, deps, put_m, put_nx, new_m, new_nx, putIx, putOwn, insOf, lkN, putL, putN, thaw, getO, ixOf, LIM, B64, asI, Z.b2, z6d, z6e, z4a, z4b, z48, z49, z69, z6a, z32, z33, z34, z35, z36, z37, z42, z43, z3e, z3f, z40, z41, z38, z39, z3a, z3b, z3c, z3d, z44, z45, z6b, z6c, z52, z53, z56, z57, z58, z66, z67, z68, z5e, z5f, z60, z59, z5a, z64, z65, z50, z51, z4e, z4f, z54, z55, z61, z62, z63, z5b, z5c, z5d, z4c, z4d, z46, z47, z82, z83, z84, z85, z86, z87, z88, zbc, zbb, zba, t_prp_0_7, z8a, z89, z7a, z7b, z7c, z7d, z7e, z7f, z80, z81, z8b, z8c, z97, za2, zad, zb5, zb6, zb7, zb8, zb9, z8d, z8e, z8f, z90, z91, z92, z93, z94, z95, z96, z98, z99, z9a, z9b, z9c, z9d, z9e, z9f, za0, za1, za3, za4, za5, za6, za7, za8, za9, zaa, zab, zac, zae, zaf, zb0, zb1, zb2, zb3, zb4, edD, h1, h2, s_drop_, s__]
    repeat refine IfO.mk (by omega) ?_
    simp [lineW, s_put_, s_back_, s_drop_, s_switch_, s_put, s_back, s_drop, s_switch, s__, s_on, s_off, joinL]
  | sw n b =>
    have l2 := on_len he
    cases b
    · simp (config := {maxSteps := 4000000, dsimp := false, implicitDefEqProofs := false}) [↓zd2, ↓ze0, ↓zc2, ↓zcc, ↓zc0, ↓zd7, ↓zd9, ↓zc5, ↓zc6, ↓zbd, ↓zda, ↓zd0, ↓zc3, ↓zc4, ↓zd5, ↓zd6, ↓zdb, ↓zbe, ↓zce, ↓zdf, ↓zde, ↓zdd, ↓zdc, ↓ze1, ↓zd3, ↓zd4, ↓zc8, ↓zbf, ↓zc1, ↓zcf, ↓zca, ↓zcb, ↓zd1, ↓zcd, ↓zc9, ↓zd8, ↓zc7, ↓w_compL_nil, ↓w_compL_cons, ↓ze4, ↓ze3, ↓ze2, ↓ze5, ↓z106, ↓z103, ↓z105, ↓z101, ↓z107, ↓z104, ↓z102, ↓ze8, ↓zf5, ↓zfd, ↓zf6, ↓zfb, ↓ze6, ↓zfc, ↓zf4, ↓ze9, ↓ze7, ↓zf2, ↓zed, ↓zf3, ↓zec, ↓zf1, ↓zee, ↓zef, ↓zfe, ↓zf9, ↓zfa, ↓zf8, ↓zf7, ↓zea, ↓zeb, ↓zf0, ↓z100, ↓zff, ↓z1q, ↓z1q', ↓z12, ↓z12', ↓z2a, ↓z2a', ↓z1c, ↓z7, ↓z15, ↓z21, ↓ze, ↓z19, ↓z26, ↓z3, ↓zc, ↓zd, ↓zf, ↓z27, ↓z8, WO_some, WO_none, IfO_true, IfO_false, z10, za, z0, z1a, z17, z11, z28, z29, z1d, z1f, z23, z1b, ↓z73, ↓z74, ↓z6f, ↓z71, ↓z72, ↓z31, ↓z30, ↓z2f, ↓z2c, ↓z2e, ↓z78, ↓z76, ↓z75, ↓z79, ↓z77, if_ok, if_bl, if_and, if_or, getV, getB, opBin, opCmp, opIdx, opCut, opBi, tru, look, look_r, eqD, eqDs, Z.pure, pures, dep, deps, put_m, put_nx, new_m, new_nx, putIx, putOwn, insOf, lkN, putL, putN, thaw, getO, ixOf, LIM, B64, asI, Z.b2, z6d, z6e, z4a, z4b, z48, z49, z69, z6a, z32, z33, z34, z35, z36, z37, z42, z43, z3e, z3f, z40, z41, z38, z39, z3a, z3b, z3c, z3d, z44, z45, z6b, z6c, z52, z53, z56, z57, z58, z66, z67, z68, z5e, z5f, z60, z59, z5a, z64, z65, z50, z51, z4e, z4f, z54, z55, z61, z62, z63, z5b, z5c, z5d, z4c, z4d, z46, z47, z82, z83, z84, z85, z86, z87, z88, zbc, zbb, zba, t_prp_0_7, z8a, z89, z7a, z7b, z7c, z7d, z7e, z7f, z80, z81, z8b, z8c, z97, za2, zad, zb5, zb6, zb7, zb8, zb9, z8d, z8e, z8f, z90, z91, z92, z93, z94, z95, z96, z98, z99, z9a, z9b, z9c, z9d, z9e, z9f, za0, za1, za3, za4, za5, za6, za7, za8, za9, zaa, zab, zac, zae, zaf, zb0, zb1, zb2, zb3, zb4, edD, h3, h4, h5, s_switch_, s__, s_on, s_off]
      repeat refine IfO.mk (by omega) ?_
      simp [lineW, s_put_, s_back_, s_drop_, s_switch_, s_put, s_back, s_drop, s_switch, s__, s_on, s_off, joinL]
    · simp (config := {maxSteps := 4000000, dsimp := false, implicitDefEqProofs := false}) [↓zd2, ↓ze0, ↓zc2, ↓zcc, ↓zc0, ↓zd7, ↓zd9, ↓zc5, ↓zc6, ↓zbd, ↓zda, ↓zd0, ↓zc3, ↓zc4, ↓zd5, ↓zd6, ↓zdb, ↓zbe, ↓zce, ↓zdf, ↓zde, ↓zdd, ↓zdc, ↓ze1, ↓zd3, ↓zd4, ↓zc8, ↓zbf, ↓zc1, ↓zcf, ↓zca, ↓zcb, ↓zd1, ↓zcd, ↓zc9, ↓zd8, ↓zc7, ↓w_compL_nil, ↓w_compL_cons, ↓ze4, ↓ze3, ↓ze2, ↓ze5, ↓z106, ↓z103, ↓z105, ↓z101, ↓z107, ↓z104, ↓z102, ↓ze8, ↓zf5, ↓zfd, ↓zf6, ↓zfb, ↓ze6, ↓zfc, ↓zf4, ↓ze9, ↓ze7, ↓zf2, ↓zed, ↓zf3, ↓zec, ↓zf1, ↓zee, ↓zef, ↓zfe, ↓zf9, ↓zfa, ↓zf8, ↓zf7, ↓zea, ↓zeb, ↓zf0, ↓z100, ↓zff, ↓z1q, ↓z1q', ↓z12, ↓z12', ↓z2a, ↓z2a', ↓z1c, ↓z7, ↓z15, ↓z21, ↓ze, ↓z19, ↓z26, ↓z3, ↓zc, ↓zd, ↓zf, ↓z27, ↓z8, WO_some, WO_none, IfO_true, IfO_false, z10, za, z0, z1a, z17, z11, z28, z29, z1d, z1f, z23, z1b, ↓z73, ↓z74, ↓z6f, ↓z71, ↓z72, ↓z31, ↓z30, ↓z2f, ↓z2c, ↓z2e, ↓z78, ↓z76, ↓z75, ↓z79, ↓z77, if_ok, if_bl, if_and, if_or, getV, getB, opBin, opCmp, opIdx, opCut, opBi, tru, look, look_r, eqD, eqDs, Z.pure, pures, dep, deps, put_m, put_nx, new_m, new_nx, putIx, putOwn, insOf, lkN, putL, putN, thaw, getO, ixOf, LIM, B64, asI, Z.b2, z6d, z6e, z4a, z4b, z48, z49, z69, z6a, z32, z33, z34, z35, z36, z37, z42, z43, z3e, z3f, z40, z41, z38, z39, z3a, z3b, z3c, z3d, z44, z45, z6b, z6c, z52, z53, z56, z57, z58, z66, z67, z68, z5e, z5f, z60, z59, z5a, z64, z65, z50, z51, z4e, z4f, z54, z55, z61, z62, z63, z5b, z5c, z5d, z4c, z4d, z46, z47, z82, z83, z84, z85, z86, z87, z88, zbc, zbb, zba, t_prp_0_7, z8a, z89, z7a, z7b, z7c, z7d, z7e, z7f, z80, z81, z8b, z8c, z97, za2, zad, zb5, zb6, zb7, zb8, zb9, z8d, z8e, z8f, z90, z91, z92, z93, z94, z95, z96, z98, z99, z9a, z9b, z9c, z9d, z9e, z9f, za0, za1, za3, za4, za5, za6, za7, za8, za9, zaa, zab, zac, zae, zaf, zb0, zb1, zb2, zb3, zb4, edD, h3, h4, h5, s_switch_, s__, s_on, s_off]
      repeat refine IfO.mk (by omega) ?_
      simp [lineW, s_put_, s_back_, s_drop_, s_switch_, s_put, s_back, s_drop, s_switch, s__, s_on, s_off, joinL]
theorem join_ok (q : Nat) (a b c : W) (ha : a.length ≤ 100) (hb : b.length ≤ 100) (hc : c.length ≤ 100) (M : Sto) : callA tb.P (Cl (q + 1)) 1 [.lst [.str a, .str b, .str c]] M = .ok (.str (joinL [32] [a, b, c])) M := by
  apply WR.eqv
  rw [c_join_words, z8]
  unfold b_join_words
  simp (config := {maxSteps := 4000000, dsimp := false, implicitDefEqProofs := false}) [↓zd2, ↓ze0, ↓zc2, ↓zcc, ↓zc0, ↓zd7, ↓zd9, ↓zc5, ↓zc6, ↓zbd, ↓zda, ↓zd0, ↓zc3, ↓zc4, ↓zd5, ↓zd6, ↓zdb, ↓zbe, ↓zce, ↓zdf, ↓zde, ↓zdd, ↓zdc, ↓ze1, ↓zd3, ↓zd4, ↓zc8, ↓zbf, ↓zc1, ↓zcf, ↓zca, ↓zcb, ↓zd1, ↓zcd, ↓zc9, ↓zd8, ↓zc7, ↓w_compL_nil, ↓w_compL_cons, ↓ze4, ↓ze3, ↓ze2, ↓ze5, ↓z106, ↓z103, ↓z105, ↓z101, ↓z107, ↓z104, ↓z102, ↓ze8, ↓zf5, ↓zfd, ↓zf6, ↓zfb, ↓ze6, ↓zfc, ↓zf4, ↓ze9, ↓ze7, ↓zf2, ↓zed, ↓zf3, ↓zec, ↓zf1, ↓zee, ↓zef, ↓zfe, ↓zf9, ↓zfa, ↓zf8, ↓zf7, ↓zea, ↓zeb, ↓zf0, ↓z100, ↓zff, ↓z1q, ↓z1q', ↓z12, ↓z12', ↓z2a, ↓z2a', ↓z1c, ↓z7, ↓z15, ↓z21, ↓ze, ↓z19, ↓z26, ↓z3, ↓zc, ↓zd, ↓zf, ↓z27, ↓z8, WO_some, WO_none, IfO_true, IfO_false, z10, za, z0, z1a, z17, z11, z28, z29, z1d, z1f, z23, z1b, ↓z73, ↓z74, ↓z6f, ↓z71, ↓z72, ↓z31, ↓z30, ↓z2f, ↓z2c, ↓z2e, ↓z78, ↓z76, ↓z75, ↓z79, ↓z77, if_ok, if_bl, if_and, if_or, getV, getB, opBin, opCmp, opIdx, opCut, opBi, tru, look, look_r, eqD, eqDs, Z.pure, pures, dep, deps, put_m, put_nx, new_m, new_nx, putIx, putOwn, insOf, lkN, putL, putN, thaw, getO, ixOf, LIM, B64, asI, Z.b2, z6d, z6e, z4a, z4b, z48, z49, z69, z6a, z32, z33, z34, z35, z36, z37, z42, z43, z3e, z3f, z40, z41, z38, z39, z3a, z3b, z3c, z3d, z44, z45, z6b, z6c, z52, z53, z56, z57, z58, z66, z67, z68, z5e, z5f, z60, z59, z5a, z64, z65, z50, z51, z4e, z4f, z54, z55, z61, z62, z63, z5b, z5c, z5d, z4c, z4d, z46, z47, z82, z83, z84, z85, z86, z87, z88, zbc, zbb, zba, t_prp_0_7, z8a, z89, z7a, z7b, z7c, z7d, z7e, z7f, z80, z81, z8b, z8c, z97, za2, zad, zb5, zb6, zb7, zb8, zb9, z8d, z8e, z8f, z90, z91, z92, z93, z94, z95, z96, z98, z99, z9a, z9b, z9c, z9d, z9e, z9f, za0, za1, za3, za4, za5, za6, za7, za8, za9, zaa, zab, zac, zae, zaf, zb0, zb1, zb2, zb3, zb4, opBm, s__, asStrs]
  repeat refine IfO.mk (by omega) ?_
  simp
theorem text_ok (q : Nat) (e : Ed) (he : EdG e) (M : Sto) : callA tb.P (Cl (q + 2)) 9 [edD e] M = .ok (.str (lineW e)) M := by
  apply WR.eqv
  rw [c_edit_text, z8]
  unfold b_edit_text
  have h1 : (s_drop = s_put) = False := by decide
  have h2 : (s_drop = s_back) = False := by decide
  have h3 : (s_switch = s_put) = False := by decide
  have h4 : (s_switch = s_back) = False := by decide
  have h5 : (s_switch = s_drop) = False := by decide
  have h6 : (s_back = s_put) = False := by decide
  cases e with
  | put t =>
    have he : t.length ≤ 200 := he
    simp (config := {maxSteps := 4000000, dsimp := false, implicitDefEqProofs := false}) [↓zd2, ↓ze0, ↓zc2, ↓zcc, ↓zc0, ↓zd7, ↓zd9, ↓zc5, ↓zc6, ↓zbd, ↓zda, ↓zd0, ↓zc3, ↓zc4, ↓zd5, ↓zd6, ↓zdb, ↓zbe, ↓zce, ↓zdf, ↓zde, ↓zdd, ↓zdc, ↓ze1, ↓zd3, ↓zd4, ↓zc8, ↓zbf, ↓zc1, ↓zcf, ↓zca, ↓zcb, ↓zd1, ↓zcd, ↓zc9, ↓zd8, ↓zc7, ↓w_compL_nil, ↓w_compL_cons, ↓ze4, ↓ze3, ↓ze2, ↓ze5, ↓z106, ↓z103, ↓z105, ↓z101, ↓z107, ↓z104, ↓z102, ↓ze8, ↓zf5, ↓zfd, ↓zf6, ↓zfb, ↓ze6, ↓zfc, ↓zf4, ↓ze9, ↓ze7, ↓zf2, ↓zed, ↓zf3, ↓zec, ↓zf1, ↓zee, ↓zef, ↓zfe, ↓zf9, ↓zfa, ↓zf8, ↓zf7, ↓zea, ↓zeb, ↓zf0, ↓z100, ↓zff, ↓z1q, ↓z1q', ↓z12, ↓z12', ↓z2a, ↓z2a', ↓z1c, ↓z7, ↓z15, ↓z21, ↓ze, ↓z19, ↓z26, ↓z3, ↓zc, ↓zd, ↓zf, ↓z27, ↓z8, WO_some, WO_none, IfO_true, IfO_false, z10, za, z0, z1a, z17, z11, z28, z29, z1d, z1f, z23, z1b, ↓z73, ↓z74, ↓z6f, ↓z71, ↓z72, ↓z31, ↓z30, ↓z2f, ↓z2c, ↓z2e, ↓z78, ↓z76, ↓z75, ↓z79, ↓z77, if_ok, if_bl, if_and, if_or, getV, getB, opBin, opCmp, opIdx, opCut, opBi, tru, look, look_r, eqD, eqDs, Z.pure, pures, dep, deps, put_m, put_nx, new_m, new_nx, putIx, putOwn, insOf, lkN, putL, putN, thaw, getO, ixOf, LIM, B64, asI, Z.b2, z6d, z6e, z4a, z4b, z48, z49, z69, z6a, z32, z33, z34, z35, z36, z37, z42, z43, z3e, z3f, z40, z41, z38, z39, z3a, z3b, z3c, z3d, z44, z45, z6b, z6c, z52, z53, z56, z57, z58, z66, z67, z68, z5e, z5f, z60, z59, z5a, z64, z65, z50, z51, z4e, z4f, z54, z55, z61, z62, z63, z5b, z5c, z5d, z4c, z4d, z46, z47, z82, z83, z84, z85, z86, z87, z88, zbc, zbb, zba, t_prp_0_7, z8a, z89, z7a, z7b, z7c, z7d, z7e, z7f, z80, z81, z8b, z8c, z97, za2, zad, zb5, zb6, zb7, zb8, zb9, z8d, z8e, z8f, z90, z91, z92, z93, z94, z95, z96, z98, z99, z9a, z9b, z9c, z9d, z9e, z9f, za0, za1, za3, za4, za5, za6, za7, za8, za9, zaa, zab, zac, zae, zaf, zb0, zb1, zb2, zb3, zb4, edD, s_put_]
    repeat refine IfO.mk (by omega) ?_
    simp [lineW, s_put_, s_back_, s_drop_, s_switch_, s_put, s_back, s_drop, s_switch, s__, s_on, s_off, joinL]
  | back k =>
    have hl := bk_len he.1 he.2
    obtain ⟨g1, g2⟩ := he
    have g := lg' g1 (by omega)
    simp (config := {maxSteps := 4000000, dsimp := false, implicitDefEqProofs := false}) [↓zd2, ↓ze0, ↓zc2, ↓zcc, ↓zc0, ↓zd7, ↓zd9, ↓zc5, ↓zc6, ↓zbd, ↓zda, ↓zd0, ↓zc3, ↓zc4, ↓zd5, ↓zd6, ↓zdb, ↓zbe, ↓zce, ↓zdf, ↓zde, ↓zdd, ↓zdc, ↓ze1, ↓zd3, ↓zd4, ↓zc8, ↓zbf, ↓zc1, ↓zcf, ↓zca, ↓zcb, ↓zd1, ↓zcd, ↓zc9, ↓zd8, ↓zc7, ↓w_compL_nil, ↓w_compL_cons, ↓ze4, ↓ze3, ↓ze2, ↓ze5, ↓z106, ↓z103, ↓z105, ↓z101, ↓z107, ↓z104, ↓z102, ↓ze8, ↓zf5, ↓zfd, ↓zf6, ↓zfb, ↓ze6, ↓zfc, ↓zf4, ↓ze9, ↓ze7, ↓zf2, ↓zed, ↓zf3, ↓zec, ↓zf1, ↓zee, ↓zef, ↓zfe, ↓zf9, ↓zfa, ↓zf8, ↓zf7, ↓zea, ↓zeb, ↓zf0, ↓z100, ↓zff, ↓z1q, ↓z1q', ↓z12, ↓z12', ↓z2a, ↓z2a', ↓z1c, ↓z7, ↓z15, ↓z21, ↓ze, ↓z19, ↓z26, ↓z3, ↓zc, ↓zd, ↓zf, ↓z27, ↓z8, WO_some, WO_none, IfO_true, IfO_false, z10, za, z0, z1a, z17, z11, z28, z29, z1d, z1f, z23, z1b, ↓z73, ↓z74, ↓z6f, ↓z71, ↓z72, ↓z31, ↓z30, ↓z2f, ↓z2c, ↓z2e, ↓z78, ↓z76, ↓z75, ↓z79, ↓z77, if_ok, if_bl, if_and, if_or, getV, getB, opBin, opCmp, opIdx, opCut, opBi, tru, look, look_r, eqD, eqDs, Z.pure, pures, dep, deps, put_m, put_nx, new_m, new_nx, putIx, putOwn, insOf, lkN, putL, putN, thaw, getO, ixOf, LIM, B64, asI, Z.b2, z6d, z6e, z4a, z4b, z48, z49, z69, z6a, z32, z33, z34, z35, z36, z37, z42, z43, z3e, z3f, z40, z41, z38, z39, z3a, z3b, z3c, z3d, z44, z45, z6b, z6c, z52, z53, z56, z57, z58, z66, z67, z68, z5e, z5f, z60, z59, z5a, z64, z65, z50, z51, z4e, z4f, z54, z55, z61, z62, z63, z5b, z5c, z5d, z4c, z4d, z46, z47, z82, z83, z84, z85, z86, z87, z88, zbc, zbb, zba, t_prp_0_7, z8a, z89, z7a, z7b, z7c, z7d, z7e, z7f, z80, z81, z8b, z8c, z97, za2, zad, zb5, zb6, zb7, zb8, zb9, z8d, z8e, z8f, z90, z91, z92, z93, z94, z95, z96, z98, z99, z9a, z9b, z9c, z9d, z9e, z9f, za0, za1, za3, za4, za5, za6, za7, za8, za9, zaa, zab, zac, zae, zaf, zb0, zb1, zb2, zb3, zb4, edD, h6, g, s_back_]
    repeat refine IfO.mk (by omega) ?_
    simp [lineW, s_put_, s_back_, s_drop_, s_switch_, s_put, s_back, s_drop, s_switch, s__, s_on, s_off, joinL]
  | drop s n =>
    have l1 := so_len he.1
    have l2 := on_len he.2
    have j := fun M => join_ok q s_drop s n (by decide) (by omega) (by omega) M
    simp (config := {maxSteps := 4000000, dsimp := false, implicitDefEqProofs := false}) [↓zd2, ↓ze0, ↓zc2, ↓zcc, ↓zc0, ↓zd7, ↓zd9, ↓zc5, ↓zc6, ↓zbd, ↓zda, ↓zd0, ↓zc3, ↓zc4, ↓zd5, ↓zd6, ↓zdb, ↓zbe, ↓zce, ↓zdf, ↓zde, ↓zdd, ↓zdc, ↓ze1, ↓zd3, ↓zd4, ↓zc8, ↓zbf, ↓zc1, ↓zcf, ↓zca, ↓zcb, ↓zd1, ↓zcd, ↓zc9, ↓zd8, ↓zc7, ↓w_compL_nil, ↓w_compL_cons, ↓ze4, ↓ze3, ↓ze2, ↓ze5, ↓z106, ↓z103, ↓z105, ↓z101, ↓z107, ↓z104, ↓z102, ↓ze8, ↓zf5, ↓zfd, ↓zf6, ↓zfb, ↓ze6, ↓zfc, ↓zf4, ↓ze9, ↓ze7, ↓zf2, ↓zed, ↓zf3, ↓zec, ↓zf1, ↓zee, ↓zef, ↓zfe, ↓zf9, ↓zfa, ↓zf8, ↓zf7, ↓zea, ↓zeb, ↓zf0, ↓z100, ↓zff, ↓z1q, ↓z1q', ↓z12, ↓z12', ↓z2a, ↓z2a', ↓z1c, ↓z7, ↓z15, ↓z21, ↓ze, ↓z19, ↓z26, ↓z3, ↓zc, ↓zd, ↓zf, ↓z27, ↓z8, WO_some, WO_none, IfO_true, IfO_false, z10, za, z0, z1a, z17, z11, z28, z29, z1d, z1f, z23, z1b, ↓z73, ↓z74, ↓z6f, ↓z71, ↓z72, ↓z31, ↓z30, ↓z2f, ↓z2c, ↓z2e, ↓z78, ↓z76, ↓z75, ↓z79, ↓z77, if_ok, if_bl, if_and, if_or, getV, getB, opBin, opCmp, opIdx, opCut, opBi, tru, look, look_r, eqD, eqDs, Z.pure, pures, dep, deps, put_m, put_nx, new_m, new_nx, putIx, putOwn, insOf, lkN, putL, putN, thaw, getO, ixOf, LIM, B64, asI, Z.b2, z6d, z6e, z4a, z4b, z48, z49, z69, z6a, z32, z33, z34, z35, z36, z37, z42, z43, z3e, z3f, z40, z41, z38, z39, z3a, z3b, z3c, z3d, z44, z45, z6b, z6c, z52, z53, z56, z57, z58, z66, z67, z68, z5e, z5f, z60, z59, z5a, z64, z65, z50, z51, z4e, z4f, z54, z55, z61, z62, z63, z5b, z5c, z5d, z4c, z4d, z46, z47, z82, z83, z84, z85, z86, z87, z88, zbc, zbb, zba, t_prp_0_7, z8a, z89, z7a, z7b, z7c, z7d, z7e, z7f, z80, z81, z8b, z8c, z97, za2, zad, zb5, zb6, zb7, zb8, zb9, z8d, z8e, z8f, z90, z91, z92, z93, z94, z95, z96, z98, z99, z9a, z9b, z9c, z9d, z9e, z9f, za0, za1, za3, za4, za5, za6, za7, za8, za9, zaa, zab, zac, zae, zaf, zb0, zb1, zb2, zb3, zb4, edD, h1, h2, j]
    repeat refine IfO.mk (by omega) ?_
    simp [lineW, s_put_, s_back_, s_drop_, s_switch_, s_put, s_back, s_drop, s_switch, s__, s_on, s_off, joinL]
  | sw n b =>
    have l2 := on_len he
    have j1 := fun M => join_ok q s_switch n s_on (by decide) (by omega) (by decide) M
    have j2 := fun M => join_ok q s_switch n s_off (by decide) (by omega) (by decide) M
    cases b
    · simp (config := {maxSteps := 4000000, dsimp := false, implicitDefEqProofs := false}) [↓zd2, ↓ze0, ↓zc2, ↓zcc, ↓zc0, ↓zd7, ↓zd9, ↓zc5, ↓zc6, ↓zbd, ↓zda, ↓zd0, ↓zc3, ↓zc4, ↓zd5, ↓zd6, ↓zdb, ↓zbe, ↓zce, ↓zdf, ↓zde, ↓zdd, ↓zdc, ↓ze1, ↓zd3, ↓zd4, ↓zc8, ↓zbf, ↓zc1, ↓zcf, ↓zca, ↓zcb, ↓zd1, ↓zcd, ↓zc9, ↓zd8, ↓zc7, ↓w_compL_nil, ↓w_compL_cons, ↓ze4, ↓ze3, ↓ze2, ↓ze5, ↓z106, ↓z103, ↓z105, ↓z101, ↓z107, ↓z104, ↓z102, ↓ze8, ↓zf5, ↓zfd, ↓zf6, ↓zfb, ↓ze6, ↓zfc, ↓zf4, ↓ze9, ↓ze7, ↓zf2, ↓zed, ↓zf3, ↓zec, ↓zf1, ↓zee, ↓zef, ↓zfe, ↓zf9, ↓zfa, ↓zf8, ↓zf7, ↓zea, ↓zeb, ↓zf0, ↓z100, ↓zff, ↓z1q, ↓z1q', ↓z12, ↓z12', ↓z2a, ↓z2a', ↓z1c, ↓z7, ↓z15, ↓z21, ↓ze, ↓z19, ↓z26, ↓z3, ↓zc, ↓zd, ↓zf, ↓z27, ↓z8, WO_some, WO_none, IfO_true, IfO_false, z10, za, z0, z1a, z17, z11, z28, z29, z1d, z1f, z23, z1b, ↓z73, ↓z74, ↓z6f, ↓z71, ↓z72, ↓z31, ↓z30, ↓z2f, ↓z2c, ↓z2e, ↓z78, ↓z76, ↓z75, ↓z79, ↓z77, if_ok, if_bl, if_and, if_or, getV, getB, opBin, opCmp, opIdx, opCut, opBi, tru, look, look_r, eqD, eqDs, Z.pure, pures, dep, deps, put_m, put_nx, new_m, new_nx, putIx, putOwn, insOf, lkN, putL, putN, thaw, getO, ixOf, LIM, B64, asI, Z.b2, z6d, z6e, z4a, z4b, z48, z49, z69, z6a, z32, z33, z34, z35, z36, z37, z42, z43, z3e, z3f, z40, z41, z38, z39, z3a, z3b, z3c, z3d, z44, z45, z6b, z6c, z52, z53, z56, z57, z58, z66, z67, z68, z5e, z5f, z60, z59, z5a, z64, z65, z50, z51, z4e, z4f, z54, z55, z61, z62, z63, z5b, z5c, z5d, z4c, z4d, z46, z47, z82, z83, z84, z85, z86, z87, z88, zbc, zbb, zba, t_prp_0_7, z8a, z89, z7a, z7b, z7c, z7d, z7e, z7f, z80, z81, z8b, z8c, z97, za2, zad, zb5, zb6, zb7, zb8, zb9, z8d, z8e, z8f, z90, z91, z92, z93, z94, z95, z96, z98, z99, z9a, z9b, z9c, z9d, z9e, z9f, za0, za1, za3, za4, za5, za6, za7, za8, za9, zaa, zab, zac, zae, zaf, zb0, zb1, zb2, zb3, zb4, edD, h3, h4, h5, j1, j2]
      repeat refine IfO.mk (by omega) ?_
      simp [lineW, s_put_, s_back_, s_drop_, s_switch_, s_put, s_back, s_drop, s_switch, s__, s_on, s_off, joinL]
    · simp (config := {maxSteps := 4000000, dsimp := false, implicitDefEqProofs := false}) [↓zd2, ↓ze0, ↓zc2, ↓zcc, ↓zc0, ↓zd7, ↓zd9, ↓zc5, ↓zc6, ↓zbd, ↓zda, ↓zd0, ↓zc3, ↓zc4, ↓zd5, ↓zd6, ↓zdb, ↓zbe, ↓zce, ↓zdf, ↓zde, ↓zdd, ↓zdc, ↓ze1, ↓zd3, ↓zd4, ↓zc8, ↓zbf, ↓zc1, ↓zcf, ↓zca, ↓zcb, ↓zd1, ↓zcd, ↓zc9, ↓zd8, ↓zc7, ↓w_compL_nil, ↓w_compL_cons, ↓ze4, ↓ze3, ↓ze2, ↓ze5, ↓z106, ↓z103, ↓z105, ↓z101, ↓z107, ↓z104, ↓z102, ↓ze8, ↓zf5, ↓zfd, ↓zf6, ↓zfb, ↓ze6, ↓zfc, ↓zf4, ↓ze9, ↓ze7, ↓zf2, ↓zed, ↓zf3, ↓zec, ↓zf1, ↓zee, ↓zef, ↓zfe, ↓zf9, ↓zfa, ↓zf8, ↓zf7, ↓zea, ↓zeb, ↓zf0, ↓z100, ↓zff, ↓z1q, ↓z1q', ↓z12, ↓z12', ↓z2a, ↓z2a', ↓z1c, ↓z7, ↓z15, ↓z21, ↓ze, ↓z19, ↓z26, ↓z3, ↓zc, ↓zd, ↓zf, ↓z27, ↓z8, WO_some, WO_none, IfO_true, IfO_false, z10, za, z0, z1a, z17, z11, z28, z29, z1d, z1f, z23, z1b, ↓z73, ↓z74, ↓z6f, ↓z71, ↓z72, ↓z31, ↓z30, ↓z2f, ↓z2c, ↓z2e, ↓z78, ↓z76, ↓z75, ↓z79, ↓z77, if_ok, if_bl, if_and, if_or, getV, getB, opBin, opCmp, opIdx, opCut, opBi, tru, look, look_r, eqD, eqDs, Z.pure, pures, dep, deps, put_m, put_nx, new_m, new_nx, putIx, putOwn, insOf, lkN, putL, putN, thaw, getO, ixOf, LIM, B64, asI, Z.b2, z6d, z6e, z4a, z4b, z48, z49, z69, z6a, z32, z33, z34, z35, z36, z37, z42, z43, z3e, z3f, z40, z41, z38, z39, z3a, z3b, z3c, z3d, z44, z45, z6b, z6c, z52, z53, z56, z57, z58, z66, z67, z68, z5e, z5f, z60, z59, z5a, z64, z65, z50, z51, z4e, z4f, z54, z55, z61, z62, z63, z5b, z5c, z5d, z4c, z4d, z46, z47, z82, z83, z84, z85, z86, z87, z88, zbc, zbb, zba, t_prp_0_7, z8a, z89, z7a, z7b, z7c, z7d, z7e, z7f, z80, z81, z8b, z8c, z97, za2, zad, zb5, zb6, zb7, zb8, zb9, z8d, z8e, z8f, z90, z91, z92, z93, z94, z95, z96, z98, z99, z9a, z9b, z9c, z9d, z9e, z9f, za0, za1, za3, za4, za5, za6, za7, za8, za9, zaa, zab, zac, zae, zaf, zb0, zb1, zb2, zb3, zb4, edD, h3, h4, h5, j1, j2]
      repeat refine IfO.mk (by omega) ?_
      simp [lineW, s_put_, s_back_, s_drop_, s_switch_, s_put, s_back, s_drop, s_switch, s__, s_on, s_off, joinL]
theorem same_ok (q : Nat) (e : Ed) (M : Sto) : callA tb.P (Cl (q + 2)) 20 [edD e, edD e] M = .ok (.bl true) M := by
  apply WR.eqv
  rw [c_law_same, z8]
  unfold b_law_same
  have h6 : (s_put = s_back) = False := by decide
  have h7 : (s_put = s_switch) = False := by decide
  have h1 : (s_drop = s_back) = False := by decide
  have h2 : (s_drop = s_switch) = False := by decide
  have h3 : (s_switch = s_back) = False := by decide
  cases e with
  | put t => simp (config := {maxSteps := 4000000, dsimp := false, implicitDefEqProofs := false}) [↓zd2, ↓ze0, ↓zc2, ↓zcc, ↓zc0, ↓zd7, ↓zd9, ↓zc5, ↓zc6, ↓zbd, ↓zda, ↓zd0, ↓zc3, ↓zc4, ↓zd5, ↓zd6, ↓zdb, ↓zbe, ↓zce, ↓zdf, ↓zde, ↓zdd, ↓zdc, ↓ze1, ↓zd3, ↓zd4, ↓zc8, ↓zbf, ↓zc1, ↓zcf, ↓zca, ↓zcb, ↓zd1, ↓zcd, ↓zc9, ↓zd8, ↓zc7, ↓w_compL_nil, ↓w_compL_cons, ↓ze4, ↓ze3, ↓ze2, ↓ze5, ↓z106, ↓z103, ↓z105, ↓z101, ↓z107, ↓z104, ↓z102, ↓ze8, ↓zf5, ↓zfd, ↓zf6, ↓zfb, ↓ze6, ↓zfc, ↓zf4, ↓ze9, ↓ze7, ↓zf2, ↓zed, ↓zf3, ↓zec, ↓zf1, ↓zee, ↓zef, ↓zfe, ↓zf9, ↓zfa, ↓zf8, ↓zf7, ↓zea, ↓zeb, ↓zf0, ↓z100, ↓zff, ↓z1q, ↓z1q', ↓z12, ↓z12', ↓z2a, ↓z2a', ↓z1c, ↓z7, ↓z15, ↓z21, ↓ze, ↓z19, ↓z26, ↓z3, ↓zc, ↓zd, ↓zf, ↓z27, ↓z8, WO_some, WO_none, IfO_true, IfO_false, z10, za, z0, z1a, z17, z11, z28, z29, z1d, z1f, z23, z1b, ↓z73, ↓z74, ↓z6f, ↓z71, ↓z72, ↓z31, ↓z30, ↓z2f, ↓z2c, ↓z2e, ↓z78, ↓z76, ↓z75, ↓z79, ↓z77, if_ok, if_bl, if_and, if_or, getV, getB, opBin, opCmp, opIdx, opCut, opBi, tru, look, look_r, eqD, eqDs, Z.pure, pures, dep, deps, put_m, put_nx, new_m, new_nx, putIx, putOwn, insOf, lkN, putL, putN, thaw, getO, ixOf, LIM, B64, asI, Z.b2, z6d, z6e, z4a, z4b, z48, z49, z69, z6a, z32, z33, z34, z35, z36, z37, z42, z43, z3e, z3f, z40, z41, z38, z39, z3a, z3b, z3c, z3d, z44, z45, z6b, z6c, z52, z53, z56, z57, z58, z66, z67, z68, z5e, z5f, z60, z59, z5a, z64, z65, z50, z51, z4e, z4f, z54, z55, z61, z62, z63, z5b, z5c, z5d, z4c, z4d, z46, z47, z82, z83, z84, z85, z86, z87, z88, zbc, zbb, zba, t_prp_0_7, z8a, z89, z7a, z7b, z7c, z7d, z7e, z7f, z80, z81, z8b, z8c, z97, za2, zad, zb5, zb6, zb7, zb8, zb9, z8d, z8e, z8f, z90, z91, z92, z93, z94, z95, z96, z98, z99, z9a, z9b, z9c, z9d, z9e, z9f, za0, za1, za3, za4, za5, za6, za7, za8, za9, zaa, zab, zac, zae, zaf, zb0, zb1, zb2, zb3, zb4, edD, tyM, tyOf, isAny, h6, h7, eqD, eqDs]
  | back k =>
    have hi := int_ok q k
    simp (config := {maxSteps := 4000000, dsimp := false, implicitDefEqProofs := false}) [↓zd2, ↓ze0, ↓zc2, ↓zcc, ↓zc0, ↓zd7, ↓zd9, ↓zc5, ↓zc6, ↓zbd, ↓zda, ↓zd0, ↓zc3, ↓zc4, ↓zd5, ↓zd6, ↓zdb, ↓zbe, ↓zce, ↓zdf, ↓zde, ↓zdd, ↓zdc, ↓ze1, ↓zd3, ↓zd4, ↓zc8, ↓zbf, ↓zc1, ↓zcf, ↓zca, ↓zcb, ↓zd1, ↓zcd, ↓zc9, ↓zd8, ↓zc7, ↓w_compL_nil, ↓w_compL_cons, ↓ze4, ↓ze3, ↓ze2, ↓ze5, ↓z106, ↓z103, ↓z105, ↓z101, ↓z107, ↓z104, ↓z102, ↓ze8, ↓zf5, ↓zfd, ↓zf6, ↓zfb, ↓ze6, ↓zfc, ↓zf4, ↓ze9, ↓ze7, ↓zf2, ↓zed, ↓zf3, ↓zec, ↓zf1, ↓zee, ↓zef, ↓zfe, ↓zf9, ↓zfa, ↓zf8, ↓zf7, ↓zea, ↓zeb, ↓zf0, ↓z100, ↓zff, ↓z1q, ↓z1q', ↓z12, ↓z12', ↓z2a, ↓z2a', ↓z1c, ↓z7, ↓z15, ↓z21, ↓ze, ↓z19, ↓z26, ↓z3, ↓zc, ↓zd, ↓zf, ↓z27, ↓z8, WO_some, WO_none, IfO_true, IfO_false, z10, za, z0, z1a, z17, z11, z28, z29, z1d, z1f, z23, z1b, ↓z73, ↓z74, ↓z6f, ↓z71, ↓z72, ↓z31, ↓z30, ↓z2f, ↓z2c, ↓z2e, ↓z78, ↓z76, ↓z75, ↓z79, ↓z77, if_ok, if_bl, if_and, if_or, getV, getB, opBin, opCmp, opIdx, opCut, opBi, tru, look, look_r, eqD, eqDs, Z.pure, pures, dep, deps, put_m, put_nx, new_m, new_nx, putIx, putOwn, insOf, lkN, putL, putN, thaw, getO, ixOf, LIM, B64, asI, Z.b2, z6d, z6e, z4a, z4b, z48, z49, z69, z6a, z32, z33, z34, z35, z36, z37, z42, z43, z3e, z3f, z40, z41, z38, z39, z3a, z3b, z3c, z3d, z44, z45, z6b, z6c, z52, z53, z56, z57, z58, z66, z67, z68, z5e, z5f, z60, z59, z5a, z64, z65, z50, z51, z4e, z4f, z54, z55, z61, z62, z63, z5b, z5c, z5d, z4c, z4d, z46, z47, z82, z83, z84, z85, z86, z87, z88, zbc, zbb, zba, t_prp_0_7, z8a, z89, z7a, z7b, z7c, z7d, z7e, z7f, z80, z81, z8b, z8c, z97, za2, zad, zb5, zb6, zb7, zb8, zb9, z8d, z8e, z8f, z90, z91, z92, z93, z94, z95, z96, z98, z99, z9a, z9b, z9c, z9d, z9e, z9f, za0, za1, za3, za4, za5, za6, za7, za8, za9, zaa, zab, zac, zae, zaf, zb0, zb1, zb2, zb3, zb4, edD, tyM, tyOf, isAny, eqD, eqDs, hi]
  | drop s n => simp (config := {maxSteps := 4000000, dsimp := false, implicitDefEqProofs := false}) [↓zd2, ↓ze0, ↓zc2, ↓zcc, ↓zc0, ↓zd7, ↓zd9, ↓zc5, ↓zc6, ↓zbd, ↓zda, ↓zd0, ↓zc3, ↓zc4, ↓zd5, ↓zd6, ↓zdb, ↓zbe, ↓zce, ↓zdf, ↓zde, ↓zdd, ↓zdc, ↓ze1, ↓zd3, ↓zd4, ↓zc8, ↓zbf, ↓zc1, ↓zcf, ↓zca, ↓zcb, ↓zd1, ↓zcd, ↓zc9, ↓zd8, ↓zc7, ↓w_compL_nil, ↓w_compL_cons, ↓ze4, ↓ze3, ↓ze2, ↓ze5, ↓z106, ↓z103, ↓z105, ↓z101, ↓z107, ↓z104, ↓z102, ↓ze8, ↓zf5, ↓zfd, ↓zf6, ↓zfb, ↓ze6, ↓zfc, ↓zf4, ↓ze9, ↓ze7, ↓zf2, ↓zed, ↓zf3, ↓zec, ↓zf1, ↓zee, ↓zef, ↓zfe, ↓zf9, ↓zfa, ↓zf8, ↓zf7, ↓zea, ↓zeb, ↓zf0, ↓z100, ↓zff, ↓z1q, ↓z1q', ↓z12, ↓z12', ↓z2a, ↓z2a', ↓z1c, ↓z7, ↓z15, ↓z21, ↓ze, ↓z19, ↓z26, ↓z3, ↓zc, ↓zd, ↓zf, ↓z27, ↓z8, WO_some, WO_none, IfO_true, IfO_false, z10, za, z0, z1a, z17, z11, z28, z29, z1d, z1f, z23, z1b, ↓z73, ↓z74, ↓z6f, ↓z71, ↓z72, ↓z31, ↓z30, ↓z2f, ↓z2c, ↓z2e, ↓z78, ↓z76, ↓z75, ↓z79, ↓z77, if_ok, if_bl, if_and, if_or, getV, getB, opBin, opCmp, opIdx, opCut, opBi, tru, look, look_r, eqD, eqDs, Z.pure, pures, dep, deps, put_m, put_nx, new_m, new_nx, putIx, putOwn, insOf, lkN, putL, putN, thaw, getO, ixOf, LIM, B64, asI, Z.b2, z6d, z6e, z4a, z4b, z48, z49, z69, z6a, z32, z33, z34, z35, z36, z37, z42, z43, z3e, z3f, z40, z41, z38, z39, z3a, z3b, z3c, z3d, z44, z45, z6b, z6c, z52, z53, z56, z57, z58, z66, z67, z68, z5e, z5f, z60, z59, z5a, z64, z65, z50, z51, z4e, z4f, z54, z55, z61, z62, z63, z5b, z5c, z5d, z4c, z4d, z46, z47, z82, z83, z84, z85, z86, z87, z88, zbc, zbb, zba, t_prp_0_7, z8a, z89, z7a, z7b, z7c, z7d, z7e, z7f, z80, z81, z8b, z8c, z97, za2, zad, zb5, zb6, zb7, zb8, zb9, z8d, z8e, z8f, z90, z91, z92, z93, z94, z95, z96, z98, z99, z9a, z9b, z9c, z9d, z9e, z9f, za0, za1, za3, za4, za5, za6, za7, za8, za9, zaa, zab, zac, zae, zaf, zb0, zb1, zb2, zb3, zb4, edD, tyM, tyOf, isAny, eqD, eqDs, h1, h2]
  | sw n b => simp (config := {maxSteps := 4000000, dsimp := false, implicitDefEqProofs := false}) [↓zd2, ↓ze0, ↓zc2, ↓zcc, ↓zc0, ↓zd7, ↓zd9, ↓zc5, ↓zc6, ↓zbd, ↓zda, ↓zd0, ↓zc3, ↓zc4, ↓zd5, ↓zd6, ↓zdb, ↓zbe, ↓zce, ↓zdf, ↓zde, ↓zdd, ↓zdc, ↓ze1, ↓zd3, ↓zd4, ↓zc8, ↓zbf, ↓zc1, ↓zcf, ↓zca, ↓zcb, ↓zd1, ↓zcd, ↓zc9, ↓zd8, ↓zc7, ↓w_compL_nil, ↓w_compL_cons, ↓ze4, ↓ze3, ↓ze2, ↓ze5, ↓z106, ↓z103, ↓z105, ↓z101, ↓z107, ↓z104, ↓z102, ↓ze8, ↓zf5, ↓zfd, ↓zf6, ↓zfb, ↓ze6, ↓zfc, ↓zf4, ↓ze9, ↓ze7, ↓zf2, ↓zed, ↓zf3, ↓zec, ↓zf1, ↓zee, ↓zef, ↓zfe, ↓zf9, ↓zfa, ↓zf8, ↓zf7, ↓zea, ↓zeb, ↓zf0, ↓z100, ↓zff, ↓z1q, ↓z1q', ↓z12, ↓z12', ↓z2a, ↓z2a', ↓z1c, ↓z7, ↓z15, ↓z21, ↓ze, ↓z19, ↓z26, ↓z3, ↓zc, ↓zd, ↓zf, ↓z27, ↓z8, WO_some, WO_none, IfO_true, IfO_false, z10, za, z0, z1a, z17, z11, z28, z29, z1d, z1f, z23, z1b, ↓z73, ↓z74, ↓z6f, ↓z71, ↓z72, ↓z31, ↓z30, ↓z2f, ↓z2c, ↓z2e, ↓z78, ↓z76, ↓z75, ↓z79, ↓z77, if_ok, if_bl, if_and, if_or, getV, getB, opBin, opCmp, opIdx, opCut, opBi, tru, look, look_r, eqD, eqDs, Z.pure, pures, dep, deps, put_m, put_nx, new_m, new_nx, putIx, putOwn, insOf, lkN, putL, putN, thaw, getO, ixOf, LIM, B64, asI, Z.b2, z6d, z6e, z4a, z4b, z48, z49, z69, z6a, z32, z33, z34, z35, z36, z37, z42, z43, z3e, z3f, z40, z41, z38, z39, z3a, z3b, z3c, z3d, z44, z45, z6b, z6c, z52, z53, z56, z57, z58, z66, z67, z68, z5e, z5f, z60, z59, z5a, z64, z65, z50, z51, z4e, z4f, z54, z55, z61, z62, z63, z5b, z5c, z5d, z4c, z4d, z46, z47, z82, z83, z84, z85, z86, z87, z88, zbc, zbb, zba, t_prp_0_7, z8a, z89, z7a, z7b, z7c, z7d, z7e, z7f, z80, z81, z8b, z8c, z97, za2, zad, zb5, zb6, zb7, zb8, zb9, z8d, z8e, z8f, z90, z91, z92, z93, z94, z95, z96, z98, z99, z9a, z9b, z9c, z9d, z9e, z9f, za0, za1, za3, za4, za5, za6, za7, za8, za9, zaa, zab, zac, zae, zaf, zb0, zb1, zb2, zb3, zb4, edD, tyM, tyOf, isAny, eqD, eqDs, h3]
end Q


set_option Elab.async false
set_option linter.all false
set_option autoImplicit false
set_option maxRecDepth 100000
set_option maxHeartbeats 4000000
namespace Q
open PySem L2 Z
theorem spl_no (c : Nat) : ∀ {a : W}, ¬ c ∈ a → splitAt1 c a = [a]
  | [], _ => rfl
  | x :: a, h => by
    simp only [List.mem_cons, not_or] at h
    rw [splitAt1, if_neg (fun e => h.1 e.symm), spl_no c h.2]
theorem spl_at (c : Nat) : ∀ {a : W} (b : W), ¬ c ∈ a → splitAt1 c (a ++ c :: b) = a :: splitAt1 c b
  | [], b, _ => by rw [List.nil_append, splitAt1, if_pos rfl]
  | x :: a, b, h => by
    simp only [List.mem_cons, not_or] at h
    rw [List.cons_append, splitAt1, if_neg (fun e => h.1 e.symm), spl_at c b h.2]
/-- what the law asks of a line -/
structure LF (e : Ed) (ws : List W) (l1 l6 : W) (n : Nat) : Prop where
  s : splitAt1 32 (lineW e) = ws
  m : ws.length = n
  j : joinL [32] ws.dropLast = l1
  k : ws.headD [] ++ ([32, 43, 32] ++ joinL [32] (ws.drop 2)) = l6
  f0 : RL (lineW e) = .inr e
  f1 : RL l1 = .inl (n - 1)
  f2 : RL (lineW e ++ [32, 111, 110]) = .inl n
  f3 : RL (lineW e ++ [32]) = .inl n
  f4 : RL (120 :: lineW e) = .inl 0
  f5 : RL (32 :: lineW e) = .inl 0
  f6 : RL l6 = .inl 1
  l : (lineW e).length ≤ 100
  l1 : l1.length ≤ 100
  l6 : l6.length ≤ 100
theorem fx_sw {n : W} (h : onm n) (b : Bool) : ∃ l1 l6, LF (.sw n b) [s_switch, n, if b then s_on else s_off] l1 l6 3 := by
  rcases h with h | h | h <;> subst h <;> cases b <;> exact ⟨_, _, by decide +kernel, rfl, rfl, rfl, by decide +kernel, by decide +kernel, by decide +kernel, by decide +kernel, by decide +kernel, by decide +kernel, by decide +kernel, by decide, by decide, by decide⟩
theorem fx_drop {s n : W} (hs : s ∈ sortW) (h : onm n) : ∃ l1 l6, LF (.drop s n) [s_drop, s, n] l1 l6 3 := by
  simp [sortW] at hs
  rcases hs with hs | hs | hs <;> subst hs <;> rcases h with h | h | h <;> subst h <;> exact ⟨_, _, by decide +kernel, rfl, rfl, rfl, by decide +kernel, by decide +kernel, by decide +kernel, by decide +kernel, by decide +kernel, by decide +kernel, by decide +kernel, by decide, by decide, by decide⟩
theorem mem_num {n c : Nat} (h : c ∈ TL.numL n) : 48 ≤ c ∧ c ≤ 57 := TL.numL_digits n c h
theorem in_dig {c : Nat} (h : 48 ≤ c ∧ c ≤ 57) : c ∈ digW := by
  have : c = 48 ∨ c = 49 ∨ c = 50 ∨ c = 51 ∨ c = 52 ∨ c = 53 ∨ c = 54 ∨ c = 55 ∨ c = 56 ∨ c = 57 := by omega
  rcases this with h | h | h | h | h | h | h | h | h | h <;> subst h <;> decide
theorem num_head : ∀ (n : Nat), 1 ≤ n → (TL.numL n).headD 0 ≠ 48 := by
  intro n
  induction n using Nat.strongRecOn with
  | _ n ih =>
    intro h
    by_cases hn : n < 10
    · rw [TL.numL_lt hn]; simp; omega
    · rw [TL.numL_step (by omega)]
      have := ih (n / 10) (by omega) (by omega)
      obtain ⟨c, r, e⟩ : ∃ c r, TL.numL (n / 10) = c :: r := by
        cases e : TL.numL (n / 10) with
        | nil => exact absurd e (TL.numL_ne _)
        | cons c r => exact ⟨c, r, rfl⟩
      rw [e] at this ⊢
      simpa using this
theorem num_back {k : Int} (h0 : 0 ≤ k) (h1 : k ≤ 65535) : numW (strI k) = some k := by
  have hl := bk_len h0 h1
  have hr : PySem.intText? (sS (strI k)) = some k := by
    rw [← toS_eq]
    exact PySem.W.KIN.num_reads h0 (by omega)
  obtain ⟨n, rfl, e⟩ := bk_str h0
  unfold numW
  rw [if_pos, hr]
  · show (if 65535 < (n : Int) then none else some (n : Int)) = _
    rw [if_neg (by omega)]
  · rw [e] at hl ⊢
    refine ⟨⟨?_, hl⟩, ?_, ?_⟩
    · have := List.length_pos_iff.mpr (TL.numL_ne n); omega
    · refine List.all_eq_true.mpr fun c hc => ?_
      simpa using in_dig (mem_num hc)
    · rintro ⟨h2, h3⟩
      by_cases hn : n = 0
      · subst hn; revert h3; decide
      · exact num_head n (by omega) h2
theorem RE_back (x : W) (r2 : List W) : RE (s_back :: x :: r2) = (match nuW x with
    | none => .inl 1
    | some j => fin 2 r2 (.back j)) := by
  unfold nuW; simp [RE, sb1]
  all_goals (cases ((numW x).bind fun j => if 0 ≤ j ∧ j ≤ 65535 then some j else none) <;> rfl)
theorem RE_bad (k : W) (r : List W) (h : ¬ k ∈ [s_put, s_drop, s_switch, s_back]) : RE (k :: r) = .inl 0 := by simp only [RE, if_neg h]
theorem no32 {k : Int} (h0 : 0 ≤ k) : ¬ 32 ∈ strI k := by
  obtain ⟨n, rfl, e⟩ := bk_str h0
  rw [e]; intro h; have := mem_num h; omega
theorem wds_ne {l : W} (h : l ≠ []) : wds l = splitAt1 32 l := if_neg h
theorem fx_back {k : Int} (h0 : 0 ≤ k) (h1 : k ≤ 65535) : LF (.back k) [s_back, strI k] s_back (s_back ++ [32, 43, 32]) 2 := by
  have hn := num_back h0 h1
  have hl := bk_len h0 h1
  have hz := no32 h0
  have hu : nuW (strI k) = some k := by unfold nuW; rw [hn]; simp [h0, h1]
  generalize hd : strI k = d at *
  have e0 : lineW (.back k) = s_back ++ 32 :: d := by simp [lineW, s_back_, s_back, hd]
  have hb : ¬ 32 ∈ s_back := by decide
  have rl : ∀ l : W, l.take 4 = [98, 97, 99, 107] → RL l = RE (wds l) := fun l h => by unfold RL; rw [if_neg (by rw [h]; decide)]
  have t4 : ∀ r : W, (s_back ++ r).take 4 = [98, 97, 99, 107] := fun r => rfl
  have sp : ∀ r, splitAt1 32 (s_back ++ 32 :: r) = s_back :: splitAt1 32 r := fun r => spl_at 32 r hb
  refine ⟨?_, rfl, rfl, ?_, ?_, ?_, ?_, ?_, ?_, ?_, ?_, ?_, by decide, by decide⟩
  · rw [e0, sp, spl_no 32 hz]
  · simp [joinL]
  · rw [e0, rl _ (t4 _), wds_ne (by simp), sp, spl_no 32 hz, RE_back, hu]; rfl
  · decide +kernel
  · rw [e0, List.append_assoc, List.cons_append, rl _ (t4 _), wds_ne (by simp), sp, spl_at 32 _ hz, RE_back, hu]; rfl
  · rw [e0, List.append_assoc, List.cons_append, rl _ (t4 _), wds_ne (by simp), sp, spl_at 32 _ hz, RE_back, hu]; rfl
  · rw [e0]
    have ht : (120 :: (s_back ++ 32 :: d)).take 4 = [120, 98, 97, 99] := rfl
    unfold RL
    rw [if_neg (by rw [ht]; decide), wds_ne (by simp)]
    have : splitAt1 32 (120 :: (s_back ++ 32 :: d)) = (120 :: s_back) :: splitAt1 32 d := spl_at 32 (a := 120 :: s_back) d (by decide)
    rw [this, spl_no 32 hz]
    exact RE_bad _ _ (by decide)
  · rw [e0]
    have ht : (32 :: (s_back ++ 32 :: d)).take 4 = [32, 98, 97, 99] := rfl
    unfold RL
    rw [if_neg (by rw [ht]; decide), wds_ne (by simp)]
    have : splitAt1 32 (32 :: (s_back ++ 32 :: d)) = [] :: splitAt1 32 (s_back ++ 32 :: d) := spl_at 32 (a := []) _ (by decide)
    rw [this]
    exact RE_bad _ _ (by decide)
  · decide +kernel
  · rw [e0]; simp [s_back]; omega
theorem fx_put (t : W) : RL (lineW (.put t)) = .inr (.put t) := by
  have h1 : (lineW (.put t)).take 4 = s_put_ := rfl
  have h2 : (lineW (.put t)).drop 4 = t := rfl
  unfold RL
  rw [if_pos h1, h2]
end Q


set_option Elab.async false
set_option linter.all false
set_option autoImplicit false
set_option maxRecDepth 100000
set_option maxHeartbeats 4000000
namespace Q
open PySem L2 Z
def tl : Nat → Ss → Ss
  | 0, s => s
  | n + 1, .cons _ s => tl n s
  | _ + 1, .nil => .nil
def cutAt : Nat → Ss → Ss → Ss
  | 0, _, t => t
  | n + 1, .cons s r, t => .cons s (cutAt n r t)
  | _ + 1, .nil, _ => .nil
/-- the tests of a line that is none of put -/
def Bt : Ss := match tl 4 b_law with
  | .cons (.for_ _ _ b) _ => (match tl 3 b with
    | .cons (.ife _ t _) _ => t
    | _ => .nil)
  | _ => .nil
theorem c32 (a b c : D) : cutZ [a, b, c] none (some (-1)) = [a, b] := rfl
theorem c22 (a b : D) : cutZ [a, b] none (some (-1)) = [a] := rfl
theorem c33 (a b c : D) : cutZ [a, b, c] (some 2) none = [c] := rfl
theorem c23 (a b : D) : cutZ [a, b] (some 2) none = [] := rfl
theorem bt2 (q : Nat) (e : Ed) (w0 w1 l1 l6 : W) (f : LF e [w0, w1] l1 l6 2) (F : SRes → Prop) (x0 x1 x2 x3 : SV) (x6 : SV) (M : Sto)
    (hF : ∀ x6 M, F (.nx [x0, x1, x2, x3, .val (edD e), .val (.str (lineW e)), x6] M)) :
    WS F (evSs tb.P (Cl (q + 5)) Bt [x0, x1, x2, x3, .val (edD e), .val (.str (lineW e)), x6] M) := by
  obtain ⟨hs, hm, hj, hk, f0, f1, f2, f3, f4, f5, f6, g, g1, g6⟩ := f
  unfold Bt b_law
  simp only [tl]
  generalize hl : lineW e = l at *
  have z1 : l.length + 2 ≤ 16777216 := by omega
  have z2 : l.length ≤ 16777214 := by omega
  have hb : l1.length ≤ 1000 := by omega
  have hw0 : w0 = l1 := by simpa [joinL] using hj
  have hw1 : l6 = w0 ++ [32, 43, 32] := by rw [← hk]; simp [joinL]
  have hw1l : w1.length ≤ l.length := by have := spl_w 32 l w1 (by rw [hs]; simp); omega
  have hw0l : w0.length ≤ l.length := by have := spl_w 32 l w0 (by rw [hs]; simp); omega
  subst hw0 hw1
  simp (config := {maxSteps := 4000000, dsimp := false, implicitDefEqProofs := false}) [↓zd2, ↓ze0, ↓zc2, ↓zcc, ↓zc0, ↓zd7, ↓zd9, ↓zc5, ↓zc6, ↓zbd, ↓zda, ↓zd0, ↓zc3, ↓zc4, ↓zd5, ↓zd6, ↓zdb, ↓zbe, ↓zce, ↓zdf, ↓zde, ↓zdd, ↓zdc, ↓ze1, ↓zd3, ↓zd4, ↓zc8, ↓zbf, ↓zc1, ↓zcf, ↓zca, ↓zcb, ↓zd1, ↓zcd, ↓zc9, ↓zd8, ↓zc7, ↓w_compL_nil, ↓w_compL_cons, ↓ze4, ↓ze3, ↓ze2, ↓ze5, ↓z106, ↓z103, ↓z105, ↓z101, ↓z107, ↓z104, ↓z102, ↓ze8, ↓zf5, ↓zfd, ↓zf6, ↓zfb, ↓ze6, ↓zfc, ↓zf4, ↓ze9, ↓ze7, ↓zf2, ↓zed, ↓zf3, ↓zec, ↓zf1, ↓zee, ↓zef, ↓zfe, ↓zf9, ↓zfa, ↓zf8, ↓zf7, ↓zea, ↓zeb, ↓zf0, ↓z100, ↓zff, ↓z1q, ↓z1q', ↓z12, ↓z12', ↓z2a, ↓z2a', ↓z1c, ↓z7, ↓z15, ↓z21, ↓ze, ↓z19, ↓z26, ↓z3, ↓zc, ↓zd, ↓zf, ↓z27, ↓z8, WO_some, WO_none, IfO_true, IfO_false, z10, za, z0, z1a, z17, z11, z28, z29, z1d, z1f, z23, z1b, ↓z73, ↓z74, ↓z6f, ↓z71, ↓z72, ↓z31, ↓z30, ↓z2f, ↓z2c, ↓z2e, ↓z78, ↓z76, ↓z75, ↓z79, ↓z77, if_ok, if_bl, if_and, if_or, getV, getB, opBin, opCmp, opIdx, opCut, opBi, tru, look, look_r, eqD, eqDs, Z.pure, pures, dep, deps, put_m, put_nx, new_m, new_nx, putIx, putOwn, insOf, lkN, putL, putN, thaw, getO, ixOf, LIM, B64, asI, Z.b2, z6d, z6e, z4a, z4b, z48, z49, z69, z6a, z32, z33, z34, z35, z36, z37, z42, z43, z3e, z3f, z40, z41, z38, z39, z3a, z3b, z3c, z3d, z44, z45, z6b, z6c, z52, z53, z56, z57, z58, z66, z67, z68, z5e, z5f, z60, z59, z5a, z64, z65, z50, z51, z4e, z4f, z54, z55, z61, z62, z63, z5b, z5c, z5d, z4c, z4d, z46, z47, z82, z83, z84, z85, z86, z87, z88, zbc, zbb, zba, t_prp_0_7, z8a, z89, z7a, z7b, z7c, z7d, z7e, z7f, z80, z81, z8b, z8c, z97, za2, zad, zb5, zb6, zb7, zb8, zb9, z8d, z8e, z8f, z90, z91, z92, z93, z94, z95, z96, z98, z99, z9a, z9b, z9c, z9d, z9e, z9f, za0, za1, za3, za4, za5, za6, za7, za8, za9, zaa, zab, zac, zae, zaf, zb0, zb1, zb2, zb3, zb4, opBm, s__, s__on, s_x, s____, z1, z2, hs, c22, c23, c32, c33, asStrs, joinL]
  repeat refine IfO.mk (by omega) ?_
  refine (refused_ok q _ ?_ (2-1) ?_ _).go ?_
  · first | omega | (simp; omega)
  · first | exact f1 | simpa using f1
  rintro _ M1 rfl
  simp (config := {maxSteps := 4000000, dsimp := false, implicitDefEqProofs := false}) [↓zd2, ↓ze0, ↓zc2, ↓zcc, ↓zc0, ↓zd7, ↓zd9, ↓zc5, ↓zc6, ↓zbd, ↓zda, ↓zd0, ↓zc3, ↓zc4, ↓zd5, ↓zd6, ↓zdb, ↓zbe, ↓zce, ↓zdf, ↓zde, ↓zdd, ↓zdc, ↓ze1, ↓zd3, ↓zd4, ↓zc8, ↓zbf, ↓zc1, ↓zcf, ↓zca, ↓zcb, ↓zd1, ↓zcd, ↓zc9, ↓zd8, ↓zc7, ↓w_compL_nil, ↓w_compL_cons, ↓ze4, ↓ze3, ↓ze2, ↓ze5, ↓z106, ↓z103, ↓z105, ↓z101, ↓z107, ↓z104, ↓z102, ↓ze8, ↓zf5, ↓zfd, ↓zf6, ↓zfb, ↓ze6, ↓zfc, ↓zf4, ↓ze9, ↓ze7, ↓zf2, ↓zed, ↓zf3, ↓zec, ↓zf1, ↓zee, ↓zef, ↓zfe, ↓zf9, ↓zfa, ↓zf8, ↓zf7, ↓zea, ↓zeb, ↓zf0, ↓z100, ↓zff, ↓z1q, ↓z1q', ↓z12, ↓z12', ↓z2a, ↓z2a', ↓z1c, ↓z7, ↓z15, ↓z21, ↓ze, ↓z19, ↓z26, ↓z3, ↓zc, ↓zd, ↓zf, ↓z27, ↓z8, WO_some, WO_none, IfO_true, IfO_false, z10, za, z0, z1a, z17, z11, z28, z29, z1d, z1f, z23, z1b, ↓z73, ↓z74, ↓z6f, ↓z71, ↓z72, ↓z31, ↓z30, ↓z2f, ↓z2c, ↓z2e, ↓z78, ↓z76, ↓z75, ↓z79, ↓z77, if_ok, if_bl, if_and, if_or, getV, getB, opBin, opCmp, opIdx, opCut, opBi, tru, look, look_r, eqD, eqDs, Z.pure, pures, dep, deps, put_m, put_nx, new_m, new_nx, putIx, putOwn, insOf, lkN, putL, putN, thaw, getO, ixOf, LIM, B64, asI, Z.b2, z6d, z6e, z4a, z4b, z48, z49, z69, z6a, z32, z33, z34, z35, z36, z37, z42, z43, z3e, z3f, z40, z41, z38, z39, z3a, z3b, z3c, z3d, z44, z45, z6b, z6c, z52, z53, z56, z57, z58, z66, z67, z68, z5e, z5f, z60, z59, z5a, z64, z65, z50, z51, z4e, z4f, z54, z55, z61, z62, z63, z5b, z5c, z5d, z4c, z4d, z46, z47, z82, z83, z84, z85, z86, z87, z88, zbc, zbb, zba, t_prp_0_7, z8a, z89, z7a, z7b, z7c, z7d, z7e, z7f, z80, z81, z8b, z8c, z97, za2, zad, zb5, zb6, zb7, zb8, zb9, z8d, z8e, z8f, z90, z91, z92, z93, z94, z95, z96, z98, z99, z9a, z9b, z9c, z9d, z9e, z9f, za0, za1, za3, za4, za5, za6, za7, za8, za9, zaa, zab, zac, zae, zaf, zb0, zb1, zb2, zb3, zb4, opBm, s__, s__on, s_x, s____, z1, z2, hs, c22, c23, c32, c33, asStrs, joinL]
  repeat refine IfO.mk (by omega) ?_
  refine (refused_ok q _ ?_ 2 ?_ _).go ?_
  · first | omega | (simp; omega)
  · first | exact f2 | simpa using f2
  rintro _ M1 rfl
  simp (config := {maxSteps := 4000000, dsimp := false, implicitDefEqProofs := false}) [↓zd2, ↓ze0, ↓zc2, ↓zcc, ↓zc0, ↓zd7, ↓zd9, ↓zc5, ↓zc6, ↓zbd, ↓zda, ↓zd0, ↓zc3, ↓zc4, ↓zd5, ↓zd6, ↓zdb, ↓zbe, ↓zce, ↓zdf, ↓zde, ↓zdd, ↓zdc, ↓ze1, ↓zd3, ↓zd4, ↓zc8, ↓zbf, ↓zc1, ↓zcf, ↓zca, ↓zcb, ↓zd1, ↓zcd, ↓zc9, ↓zd8, ↓zc7, ↓w_compL_nil, ↓w_compL_cons, ↓ze4, ↓ze3, ↓ze2, ↓ze5, ↓z106, ↓z103, ↓z105, ↓z101, ↓z107, ↓z104, ↓z102, ↓ze8, ↓zf5, ↓zfd, ↓zf6, ↓zfb, ↓ze6, ↓zfc, ↓zf4, ↓ze9, ↓ze7, ↓zf2, ↓zed, ↓zf3, ↓zec, ↓zf1, ↓zee, ↓zef, ↓zfe, ↓zf9, ↓zfa, ↓zf8, ↓zf7, ↓zea, ↓zeb, ↓zf0, ↓z100, ↓zff, ↓z1q, ↓z1q', ↓z12, ↓z12', ↓z2a, ↓z2a', ↓z1c, ↓z7, ↓z15, ↓z21, ↓ze, ↓z19, ↓z26, ↓z3, ↓zc, ↓zd, ↓zf, ↓z27, ↓z8, WO_some, WO_none, IfO_true, IfO_false, z10, za, z0, z1a, z17, z11, z28, z29, z1d, z1f, z23, z1b, ↓z73, ↓z74, ↓z6f, ↓z71, ↓z72, ↓z31, ↓z30, ↓z2f, ↓z2c, ↓z2e, ↓z78, ↓z76, ↓z75, ↓z79, ↓z77, if_ok, if_bl, if_and, if_or, getV, getB, opBin, opCmp, opIdx, opCut, opBi, tru, look, look_r, eqD, eqDs, Z.pure, pures, dep, deps, put_m, put_nx, new_m, new_nx, putIx, putOwn, insOf, lkN, putL, putN, thaw, getO, ixOf, LIM, B64, asI, Z.b2, z6d, z6e, z4a, z4b, z48, z49, z69, z6a, z32, z33, z34, z35, z36, z37, z42, z43, z3e, z3f, z40, z41, z38, z39, z3a, z3b, z3c, z3d, z44, z45, z6b, z6c, z52, z53, z56, z57, z58, z66, z67, z68, z5e, z5f, z60, z59, z5a, z64, z65, z50, z51, z4e, z4f, z54, z55, z61, z62, z63, z5b, z5c, z5d, z4c, z4d, z46, z47, z82, z83, z84, z85, z86, z87, z88, zbc, zbb, zba, t_prp_0_7, z8a, z89, z7a, z7b, z7c, z7d, z7e, z7f, z80, z81, z8b, z8c, z97, za2, zad, zb5, zb6, zb7, zb8, zb9, z8d, z8e, z8f, z90, z91, z92, z93, z94, z95, z96, z98, z99, z9a, z9b, z9c, z9d, z9e, z9f, za0, za1, za3, za4, za5, za6, za7, za8, za9, zaa, zab, zac, zae, zaf, zb0, zb1, zb2, zb3, zb4, opBm, s__, s__on, s_x, s____, z1, z2, hs, c22, c23, c32, c33, asStrs, joinL]
  repeat refine IfO.mk (by omega) ?_
  refine (refused_ok q _ ?_ 2 ?_ _).go ?_
  · first | omega | (simp; omega)
  · first | exact f3 | simpa using f3
  rintro _ M1 rfl
  simp (config := {maxSteps := 4000000, dsimp := false, implicitDefEqProofs := false}) [↓zd2, ↓ze0, ↓zc2, ↓zcc, ↓zc0, ↓zd7, ↓zd9, ↓zc5, ↓zc6, ↓zbd, ↓zda, ↓zd0, ↓zc3, ↓zc4, ↓zd5, ↓zd6, ↓zdb, ↓zbe, ↓zce, ↓zdf, ↓zde, ↓zdd, ↓zdc, ↓ze1, ↓zd3, ↓zd4, ↓zc8, ↓zbf, ↓zc1, ↓zcf, ↓zca, ↓zcb, ↓zd1, ↓zcd, ↓zc9, ↓zd8, ↓zc7, ↓w_compL_nil, ↓w_compL_cons, ↓ze4, ↓ze3, ↓ze2, ↓ze5, ↓z106, ↓z103, ↓z105, ↓z101, ↓z107, ↓z104, ↓z102, ↓ze8, ↓zf5, ↓zfd, ↓zf6, ↓zfb, ↓ze6, ↓zfc, ↓zf4, ↓ze9, ↓ze7, ↓zf2, ↓zed, ↓zf3, ↓zec, ↓zf1, ↓zee, ↓zef, ↓zfe, ↓zf9, ↓zfa, ↓zf8, ↓zf7, ↓zea, ↓zeb, ↓zf0, ↓z100, ↓zff, ↓z1q, ↓z1q', ↓z12, ↓z12', ↓z2a, ↓z2a', ↓z1c, ↓z7, ↓z15, ↓z21, ↓ze, ↓z19, ↓z26, ↓z3, ↓zc, ↓zd, ↓zf, ↓z27, ↓z8, WO_some, WO_none, IfO_true, IfO_false, z10, za, z0, z1a, z17, z11, z28, z29, z1d, z1f, z23, z1b, ↓z73, ↓z74, ↓z6f, ↓z71, ↓z72, ↓z31, ↓z30, ↓z2f, ↓z2c, ↓z2e, ↓z78, ↓z76, ↓z75, ↓z79, ↓z77, if_ok, if_bl, if_and, if_or, getV, getB, opBin, opCmp, opIdx, opCut, opBi, tru, look, look_r, eqD, eqDs, Z.pure, pures, dep, deps, put_m, put_nx, new_m, new_nx, putIx, putOwn, insOf, lkN, putL, putN, thaw, getO, ixOf, LIM, B64, asI, Z.b2, z6d, z6e, z4a, z4b, z48, z49, z69, z6a, z32, z33, z34, z35, z36, z37, z42, z43, z3e, z3f, z40, z41, z38, z39, z3a, z3b, z3c, z3d, z44, z45, z6b, z6c, z52, z53, z56, z57, z58, z66, z67, z68, z5e, z5f, z60, z59, z5a, z64, z65, z50, z51, z4e, z4f, z54, z55, z61, z62, z63, z5b, z5c, z5d, z4c, z4d, z46, z47, z82, z83, z84, z85, z86, z87, z88, zbc, zbb, zba, t_prp_0_7, z8a, z89, z7a, z7b, z7c, z7d, z7e, z7f, z80, z81, z8b, z8c, z97, za2, zad, zb5, zb6, zb7, zb8, zb9, z8d, z8e, z8f, z90, z91, z92, z93, z94, z95, z96, z98, z99, z9a, z9b, z9c, z9d, z9e, z9f, za0, za1, za3, za4, za5, za6, za7, za8, za9, zaa, zab, zac, zae, zaf, zb0, zb1, zb2, zb3, zb4, opBm, s__, s__on, s_x, s____, z1, z2, hs, c22, c23, c32, c33, asStrs, joinL]
  repeat refine IfO.mk (by omega) ?_
  refine (refused_ok q _ ?_ 0 ?_ _).go ?_
  · first | omega | (simp; omega)
  · first | exact f4 | simpa using f4
  rintro _ M1 rfl
  simp (config := {maxSteps := 4000000, dsimp := false, implicitDefEqProofs := false}) [↓zd2, ↓ze0, ↓zc2, ↓zcc, ↓zc0, ↓zd7, ↓zd9, ↓zc5, ↓zc6, ↓zbd, ↓zda, ↓zd0, ↓zc3, ↓zc4, ↓zd5, ↓zd6, ↓zdb, ↓zbe, ↓zce, ↓zdf, ↓zde, ↓zdd, ↓zdc, ↓ze1, ↓zd3, ↓zd4, ↓zc8, ↓zbf, ↓zc1, ↓zcf, ↓zca, ↓zcb, ↓zd1, ↓zcd, ↓zc9, ↓zd8, ↓zc7, ↓w_compL_nil, ↓w_compL_cons, ↓ze4, ↓ze3, ↓ze2, ↓ze5, ↓z106, ↓z103, ↓z105, ↓z101, ↓z107, ↓z104, ↓z102, ↓ze8, ↓zf5, ↓zfd, ↓zf6, ↓zfb, ↓ze6, ↓zfc, ↓zf4, ↓ze9, ↓ze7, ↓zf2, ↓zed, ↓zf3, ↓zec, ↓zf1, ↓zee, ↓zef, ↓zfe, ↓zf9, ↓zfa, ↓zf8, ↓zf7, ↓zea, ↓zeb, ↓zf0, ↓z100, ↓zff, ↓z1q, ↓z1q', ↓z12, ↓z12', ↓z2a, ↓z2a', ↓z1c, ↓z7, ↓z15, ↓z21, ↓ze, ↓z19, ↓z26, ↓z3, ↓zc, ↓zd, ↓zf, ↓z27, ↓z8, WO_some, WO_none, IfO_true, IfO_false, z10, za, z0, z1a, z17, z11, z28, z29, z1d, z1f, z23, z1b, ↓z73, ↓z74, ↓z6f, ↓z71, ↓z72, ↓z31, ↓z30, ↓z2f, ↓z2c, ↓z2e, ↓z78, ↓z76, ↓z75, ↓z79, ↓z77, if_ok, if_bl, if_and, if_or, getV, getB, opBin, opCmp, opIdx, opCut, opBi, tru, look, look_r, eqD, eqDs, Z.pure, pures, dep, deps, put_m, put_nx, new_m, new_nx, putIx, putOwn, insOf, lkN, putL, putN, thaw, getO, ixOf, LIM, B64, asI, Z.b2, z6d, z6e, z4a, z4b, z48, z49, z69, z6a, z32, z33, z34, z35, z36, z37, z42, z43, z3e, z3f, z40, z41, z38, z39, z3a, z3b, z3c, z3d, z44, z45, z6b, z6c, z52, z53, z56, z57, z58, z66, z67, z68, z5e, z5f, z60, z59, z5a, z64, z65, z50, z51, z4e, z4f, z54, z55, z61, z62, z63, z5b, z5c, z5d, z4c, z4d, z46, z47, z82, z83, z84, z85, z86, z87, z88, zbc, zbb, zba, t_prp_0_7, z8a, z89, z7a, z7b, z7c, z7d, z7e, z7f, z80, z81, z8b, z8c, z97, za2, zad, zb5, zb6, zb7, zb8, zb9, z8d, z8e, z8f, z90, z91, z92, z93, z94, z95, z96, z98, z99, z9a, z9b, z9c, z9d, z9e, z9f, za0, za1, za3, za4, za5, za6, za7, za8, za9, zaa, zab, zac, zae, zaf, zb0, zb1, zb2, zb3, zb4, opBm, s__, s__on, s_x, s____, z1, z2, hs, c22, c23, c32, c33, asStrs, joinL]
  repeat refine IfO.mk (by omega) ?_
  refine (refused_ok q _ ?_ 0 ?_ _).go ?_
  · first | omega | (simp; omega)
  · first | exact f5 | simpa using f5
  rintro _ M1 rfl
  simp (config := {maxSteps := 4000000, dsimp := false, implicitDefEqProofs := false}) [↓zd2, ↓ze0, ↓zc2, ↓zcc, ↓zc0, ↓zd7, ↓zd9, ↓zc5, ↓zc6, ↓zbd, ↓zda, ↓zd0, ↓zc3, ↓zc4, ↓zd5, ↓zd6, ↓zdb, ↓zbe, ↓zce, ↓zdf, ↓zde, ↓zdd, ↓zdc, ↓ze1, ↓zd3, ↓zd4, ↓zc8, ↓zbf, ↓zc1, ↓zcf, ↓zca, ↓zcb, ↓zd1, ↓zcd, ↓zc9, ↓zd8, ↓zc7, ↓w_compL_nil, ↓w_compL_cons, ↓ze4, ↓ze3, ↓ze2, ↓ze5, ↓z106, ↓z103, ↓z105, ↓z101, ↓z107, ↓z104, ↓z102, ↓ze8, ↓zf5, ↓zfd, ↓zf6, ↓zfb, ↓ze6, ↓zfc, ↓zf4, ↓ze9, ↓ze7, ↓zf2, ↓zed, ↓zf3, ↓zec, ↓zf1, ↓zee, ↓zef, ↓zfe, ↓zf9, ↓zfa, ↓zf8, ↓zf7, ↓zea, ↓zeb, ↓zf0, ↓z100, ↓zff, ↓z1q, ↓z1q', ↓z12, ↓z12', ↓z2a, ↓z2a', ↓z1c, ↓z7, ↓z15, ↓z21, ↓ze, ↓z19, ↓z26, ↓z3, ↓zc, ↓zd, ↓zf, ↓z27, ↓z8, WO_some, WO_none, IfO_true, IfO_false, z10, za, z0, z1a, z17, z11, z28, z29, z1d, z1f, z23, z1b, ↓z73, ↓z74, ↓z6f, ↓z71, ↓z72, ↓z31, ↓z30, ↓z2f, ↓z2c, ↓z2e, ↓z78, ↓z76, ↓z75, ↓z79, ↓z77, if_ok, if_bl, if_and, if_or, getV, getB, opBin, opCmp, opIdx, opCut, opBi, tru, look, look_r, eqD, eqDs, Z.pure, pures, dep, deps, put_m, put_nx, new_m, new_nx, putIx, putOwn, insOf, lkN, putL, putN, thaw, getO, ixOf, LIM, B64, asI, Z.b2, z6d, z6e, z4a, z4b, z48, z49, z69, z6a, z32, z33, z34, z35, z36, z37, z42, z43, z3e, z3f, z40, z41, z38, z39, z3a, z3b, z3c, z3d, z44, z45, z6b, z6c, z52, z53, z56, z57, z58, z66, z67, z68, z5e, z5f, z60, z59, z5a, z64, z65, z50, z51, z4e, z4f, z54, z55, z61, z62, z63, z5b, z5c, z5d, z4c, z4d, z46, z47, z82, z83, z84, z85, z86, z87, z88, zbc, zbb, zba, t_prp_0_7, z8a, z89, z7a, z7b, z7c, z7d, z7e, z7f, z80, z81, z8b, z8c, z97, za2, zad, zb5, zb6, zb7, zb8, zb9, z8d, z8e, z8f, z90, z91, z92, z93, z94, z95, z96, z98, z99, z9a, z9b, z9c, z9d, z9e, z9f, za0, za1, za3, za4, za5, za6, za7, za8, za9, zaa, zab, zac, zae, zaf, zb0, zb1, zb2, zb3, zb4, opBm, s__, s__on, s_x, s____, z1, z2, hs, c22, c23, c32, c33, asStrs, joinL]
  repeat refine IfO.mk (by omega) ?_
  refine (refused_ok q _ ?_ 1 ?_ _).go ?_
  · first | omega | (simp; omega)
  · first | exact f6 | simpa using f6
  rintro _ M1 rfl
  simp (config := {maxSteps := 4000000, dsimp := false, implicitDefEqProofs := false}) [↓zd2, ↓ze0, ↓zc2, ↓zcc, ↓zc0, ↓zd7, ↓zd9, ↓zc5, ↓zc6, ↓zbd, ↓zda, ↓zd0, ↓zc3, ↓zc4, ↓zd5, ↓zd6, ↓zdb, ↓zbe, ↓zce, ↓zdf, ↓zde, ↓zdd, ↓zdc, ↓ze1, ↓zd3, ↓zd4, ↓zc8, ↓zbf, ↓zc1, ↓zcf, ↓zca, ↓zcb, ↓zd1, ↓zcd, ↓zc9, ↓zd8, ↓zc7, ↓w_compL_nil, ↓w_compL_cons, ↓ze4, ↓ze3, ↓ze2, ↓ze5, ↓z106, ↓z103, ↓z105, ↓z101, ↓z107, ↓z104, ↓z102, ↓ze8, ↓zf5, ↓zfd, ↓zf6, ↓zfb, ↓ze6, ↓zfc, ↓zf4, ↓ze9, ↓ze7, ↓zf2, ↓zed, ↓zf3, ↓zec, ↓zf1, ↓zee, ↓zef, ↓zfe, ↓zf9, ↓zfa, ↓zf8, ↓zf7, ↓zea, ↓zeb, ↓zf0, ↓z100, ↓zff, ↓z1q, ↓z1q', ↓z12, ↓z12', ↓z2a, ↓z2a', ↓z1c, ↓z7, ↓z15, ↓z21, ↓ze, ↓z19, ↓z26, ↓z3, ↓zc, ↓zd, ↓zf, ↓z27, ↓z8, WO_some, WO_none, IfO_true, IfO_false, z10, za, z0, z1a, z17, z11, z28, z29, z1d, z1f, z23, z1b, ↓z73, ↓z74, ↓z6f, ↓z71, ↓z72, ↓z31, ↓z30, ↓z2f, ↓z2c, ↓z2e, ↓z78, ↓z76, ↓z75, ↓z79, ↓z77, if_ok, if_bl, if_and, if_or, getV, getB, opBin, opCmp, opIdx, opCut, opBi, tru, look, look_r, eqD, eqDs, Z.pure, pures, dep, deps, put_m, put_nx, new_m, new_nx, putIx, putOwn, insOf, lkN, putL, putN, thaw, getO, ixOf, LIM, B64, asI, Z.b2, z6d, z6e, z4a, z4b, z48, z49, z69, z6a, z32, z33, z34, z35, z36, z37, z42, z43, z3e, z3f, z40, z41, z38, z39, z3a, z3b, z3c, z3d, z44, z45, z6b, z6c, z52, z53, z56, z57, z58, z66, z67, z68, z5e, z5f, z60, z59, z5a, z64, z65, z50, z51, z4e, z4f, z54, z55, z61, z62, z63, z5b, z5c, z5d, z4c, z4d, z46, z47, z82, z83, z84, z85, z86, z87, z88, zbc, zbb, zba, t_prp_0_7, z8a, z89, z7a, z7b, z7c, z7d, z7e, z7f, z80, z81, z8b, z8c, z97, za2, zad, zb5, zb6, zb7, zb8, zb9, z8d, z8e, z8f, z90, z91, z92, z93, z94, z95, z96, z98, z99, z9a, z9b, z9c, z9d, z9e, z9f, za0, za1, za3, za4, za5, za6, za7, za8, za9, zaa, zab, zac, zae, zaf, zb0, zb1, zb2, zb3, zb4]
  exact hF _ _
theorem bt3 (q : Nat) (e : Ed) (w0 w1 w2 l1 l6 : W) (f : LF e [w0, w1, w2] l1 l6 3) (F : SRes → Prop) (x0 x1 x2 x3 : SV) (x6 : SV) (M : Sto)
    (hF : ∀ x6 M, F (.nx [x0, x1, x2, x3, .val (edD e), .val (.str (lineW e)), x6] M)) :
    WS F (evSs tb.P (Cl (q + 5)) Bt [x0, x1, x2, x3, .val (edD e), .val (.str (lineW e)), x6] M) := by
  obtain ⟨hs, hm, hj, hk, f0, f1, f2, f3, f4, f5, f6, g, g1, g6⟩ := f
  unfold Bt b_law
  simp only [tl]
  generalize hl : lineW e = l at *
  have z1 : l.length + 2 ≤ 16777216 := by omega
  have z2 : l.length ≤ 16777214 := by omega
  have hb : l1.length ≤ 1000 := by omega
  have hw0 : l1 = w0 ++ (32 :: w1) := by rw [← hj]; simp [joinL]
  have hw1 : l6 = w0 ++ 32 :: 43 :: 32 :: w2 := by rw [← hk]; simp [joinL]
  have hw1l : w1.length ≤ l.length := by have := spl_w 32 l w1 (by rw [hs]; simp); omega
  have hw0l : w0.length ≤ l.length := by have := spl_w 32 l w0 (by rw [hs]; simp); omega
  have hw2l : w2.length ≤ l.length := by have := spl_w 32 l w2 (by rw [hs]; simp); omega
  subst hw0 hw1
  simp (config := {maxSteps := 4000000, dsimp := false, implicitDefEqProofs := false}) [↓zd2, ↓ze0, ↓zc2, ↓zcc, ↓zc0, ↓zd7, ↓zd9, ↓zc5, ↓zc6, ↓zbd, ↓zda, ↓zd0, ↓zc3, ↓zc4, ↓zd5, ↓zd6, ↓zdb, ↓zbe, ↓zce, ↓zdf, ↓zde, ↓zdd, ↓zdc, ↓ze1, ↓zd3, ↓zd4, ↓zc8, ↓zbf, ↓zc1, ↓zcf, ↓zca, ↓zcb, ↓zd1, ↓zcd, ↓zc9, ↓zd8, ↓zc7, ↓w_compL_nil, ↓w_compL_cons, ↓ze4, ↓ze3, ↓ze2, ↓ze5, ↓z106, ↓z103, ↓z105, ↓z101, ↓z107, ↓z104, ↓z102, ↓ze8, ↓zf5, ↓zfd, ↓zf6, ↓zfb, ↓ze6, ↓zfc, ↓zf4, ↓ze9, ↓ze7, ↓zf2, ↓zed, ↓zf3, ↓zec, ↓zf1, ↓zee, ↓zef, ↓zfe, ↓zf9, ↓zfa, ↓zf8, ↓zf7, ↓zea, ↓zeb, ↓zf0, ↓z100, ↓zff, ↓z1q, ↓z1q', ↓z12, ↓z12', ↓z2a, ↓z2a', ↓z1c, ↓z7, ↓z15, ↓z21, ↓ze, ↓z19, ↓z26, ↓z3, ↓zc, ↓zd, ↓zf, ↓z27, ↓z8, WO_some, WO_none, IfO_true, IfO_false, z10, za, z0, z1a, z17, z11, z28, z29, z1d, z1f, z23, z1b, ↓z73, ↓z74, ↓z6f, ↓z71, ↓z72, ↓z31, ↓z30, ↓z2f, ↓z2c, ↓z2e, ↓z78, ↓z76, ↓z75, ↓z79, ↓z77, if_ok, if_bl, if_and, if_or, getV, getB, opBin, opCmp, opIdx, opCut, opBi, tru, look, look_r, eqD, eqDs, Z.pure, pures, dep, deps, put_m, put_nx, new_m, new_nx, putIx, putOwn, insOf, lkN, putL, putN, thaw, getO, ixOf, LIM, B64, asI, Z.b2, z6d, z6e, z4a, z4b, z48, z49, z69, z6a, z32, z33, z34, z35, z36, z37, z42, z43, z3e, z3f, z40, z41, z38, z39, z3a, z3b, z3c, z3d, z44, z45, z6b, z6c, z52, z53, z56, z57, z58, z66, z67, z68, z5e, z5f, z60, z59, z5a, z64, z65, z50, z51, z4e, z4f, z54, z55, z61, z62, z63, z5b, z5c, z5d, z4c, z4d, z46, z47, z82, z83, z84, z85, z86, z87, z88, zbc, zbb, zba, t_prp_0_7, z8a, z89, z7a, z7b, z7c, z7d, z7e, z7f, z80, z81, z8b, z8c, z97, za2, zad, zb5, zb6, zb7, zb8, zb9, z8d, z8e, z8f, z90, z91, z92, z93, z94, z95, z96, z98, z99, z9a, z9b, z9c, z9d, z9e, z9f, za0, za1, za3, za4, za5, za6, za7, za8, za9, zaa, zab, zac, zae, zaf, zb0, zb1, zb2, zb3, zb4, opBm, s__, s__on, s_x, s____, z1, z2, hs, c22, c23, c32, c33, asStrs, joinL]
  repeat refine IfO.mk (by omega) ?_
  refine (refused_ok q _ ?_ (3-1) ?_ _).go ?_
  · first | omega | (simp; omega)
  · first | exact f1 | simpa using f1
  rintro _ M1 rfl
  simp (config := {maxSteps := 4000000, dsimp := false, implicitDefEqProofs := false}) [↓zd2, ↓ze0, ↓zc2, ↓zcc, ↓zc0, ↓zd7, ↓zd9, ↓zc5, ↓zc6, ↓zbd, ↓zda, ↓zd0, ↓zc3, ↓zc4, ↓zd5, ↓zd6, ↓zdb, ↓zbe, ↓zce, ↓zdf, ↓zde, ↓zdd, ↓zdc, ↓ze1, ↓zd3, ↓zd4, ↓zc8, ↓zbf, ↓zc1, ↓zcf, ↓zca, ↓zcb, ↓zd1, ↓zcd, ↓zc9, ↓zd8, ↓zc7, ↓w_compL_nil, ↓w_compL_cons, ↓ze4, ↓ze3, ↓ze2, ↓ze5, ↓z106, ↓z103, ↓z105, ↓z101, ↓z107, ↓z104, ↓z102, ↓ze8, ↓zf5, ↓zfd, ↓zf6, ↓zfb, ↓ze6, ↓zfc, ↓zf4, ↓ze9, ↓ze7, ↓zf2, ↓zed, ↓zf3, ↓zec, ↓zf1, ↓zee, ↓zef, ↓zfe, ↓zf9, ↓zfa, ↓zf8, ↓zf7, ↓zea, ↓zeb, ↓zf0, ↓z100, ↓zff, ↓z1q, ↓z1q', ↓z12, ↓z12', ↓z2a, ↓z2a', ↓z1c, ↓z7, ↓z15, ↓z21, ↓ze, ↓z19, ↓z26, ↓z3, ↓zc, ↓zd, ↓zf, ↓z27, ↓z8, WO_some, WO_none, IfO_true, IfO_false, z10, za, z0, z1a, z17, z11, z28, z29, z1d, z1f, z23, z1b, ↓z73, ↓z74, ↓z6f, ↓z71, ↓z72, ↓z31, ↓z30, ↓z2f, ↓z2c, ↓z2e, ↓z78, ↓z76, ↓z75, ↓z79, ↓z77, if_ok, if_bl, if_and, if_or, getV, getB, opBin, opCmp, opIdx, opCut, opBi, tru, look, look_r, eqD, eqDs, Z.pure, pures, dep, deps, put_m, put_nx, new_m, new_nx, putIx, putOwn, insOf, lkN, putL, putN, thaw, getO, ixOf, LIM, B64, asI, Z.b2, z6d, z6e, z4a, z4b, z48, z49, z69, z6a, z32, z33, z34, z35, z36, z37, z42, z43, z3e, z3f, z40, z41, z38, z39, z3a, z3b, z3c, z3d, z44, z45, z6b, z6c, z52, z53, z56, z57, z58, z66, z67, z68, z5e, z5f, z60, z59, z5a, z64, z65, z50, z51, z4e, z4f, z54, z55, z61, z62, z63, z5b, z5c, z5d, z4c, z4d, z46, z47, z82, z83, z84, z85, z86, z87, z88, zbc, zbb, zba, t_prp_0_7, z8a, z89, z7a, z7b, z7c, z7d, z7e, z7f, z80, z81, z8b, z8c, z97, za2, zad, zb5, zb6, zb7, zb8, zb9, z8d, z8e, z8f, z90, z91, z92, z93, z94, z95, z96, z98, z99, z9a, z9b, z9c, z9d, z9e, z9f, za0, za1, za3, za4, za5, za6, za7, za8, za9, zaa, zab, zac, zae, zaf, zb0, zb1, zb2, zb3, zb4, opBm, s__, s__on, s_x, s____, z1, z2, hs, c22, c23, c32, c33, asStrs, joinL]
  repeat refine IfO.mk (by omega) ?_
  refine (refused_ok q _ ?_ 3 ?_ _).go ?_
  · first | omega | (simp; omega)
  · first | exact f2 | simpa using f2
  rintro _ M1 rfl
  simp (config := {maxSteps := 4000000, dsimp := false, implicitDefEqProofs := false}) [↓zd2, ↓ze0, ↓zc2, ↓zcc, ↓zc0, ↓zd7, ↓zd9, ↓zc5, ↓zc6, ↓zbd, ↓zda, ↓zd0, ↓zc3, ↓zc4, ↓zd5, ↓zd6, ↓zdb, ↓zbe, ↓zce, ↓zdf, ↓zde, ↓zdd, ↓zdc, ↓ze1, ↓zd3, ↓zd4, ↓zc8, ↓zbf, ↓zc1, ↓zcf, ↓zca, ↓zcb, ↓zd1, ↓zcd, ↓zc9, ↓zd8, ↓zc7, ↓w_compL_nil, ↓w_compL_cons, ↓ze4, ↓ze3, ↓ze2, ↓ze5, ↓z106, ↓z103, ↓z105, ↓z101, ↓z107, ↓z104, ↓z102, ↓ze8, ↓zf5, ↓zfd, ↓zf6, ↓zfb, ↓ze6, ↓zfc, ↓zf4, ↓ze9, ↓ze7, ↓zf2, ↓zed, ↓zf3, ↓zec, ↓zf1, ↓zee, ↓zef, ↓zfe, ↓zf9, ↓zfa, ↓zf8, ↓zf7, ↓zea, ↓zeb, ↓zf0, ↓z100, ↓zff, ↓z1q, ↓z1q', ↓z12, ↓z12', ↓z2a, ↓z2a', ↓z1c, ↓z7, ↓z15, ↓z21, ↓ze, ↓z19, ↓z26, ↓z3, ↓zc, ↓zd, ↓zf, ↓z27, ↓z8, WO_some, WO_none, IfO_true, IfO_false, z10, za, z0, z1a, z17, z11, z28, z29, z1d, z1f, z23, z1b, ↓z73, ↓z74, ↓z6f, ↓z71, ↓z72, ↓z31, ↓z30, ↓z2f, ↓z2c, ↓z2e, ↓z78, ↓z76, ↓z75, ↓z79, ↓z77, if_ok, if_bl, if_and, if_or, getV, getB, opBin, opCmp, opIdx, opCut, opBi, tru, look, look_r, eqD, eqDs, Z.pure, pures, dep, deps, put_m, put_nx, new_m, new_nx, putIx, putOwn, insOf, lkN, putL, putN, thaw, getO, ixOf, LIM, B64, asI, Z.b2, z6d, z6e, z4a, z4b, z48, z49, z69, z6a, z32, z33, z34, z35, z36, z37, z42, z43, z3e, z3f, z40, z41, z38, z39, z3a, z3b, z3c, z3d, z44, z45, z6b, z6c, z52, z53, z56, z57, z58, z66, z67, z68, z5e, z5f, z60, z59, z5a, z64, z65, z50, z51, z4e, z4f, z54, z55, z61, z62, z63, z5b, z5c, z5d, z4c, z4d, z46, z47, z82, z83, z84, z85, z86, z87, z88, zbc, zbb, zba, t_prp_0_7, z8a, z89, z7a, z7b, z7c, z7d, z7e, z7f, z80, z81, z8b, z8c, z97, za2, zad, zb5, zb6, zb7, zb8, zb9, z8d, z8e, z8f, z90, z91, z92, z93, z94, z95, z96, z98, z99, z9a, z9b, z9c, z9d, z9e, z9f, za0, za1, za3, za4, za5, za6, za7, za8, za9, zaa, zab, zac, zae, zaf, zb0, zb1, zb2, zb3, zb4, opBm, s__, s__on, s_x, s____, z1, z2, hs, c22, c23, c32, c33, asStrs, joinL]
  repeat refine IfO.mk (by omega) ?_
  refine (refused_ok q _ ?_ 3 ?_ _).go ?_
  · first | omega | (simp; omega)
  · first | exact f3 | simpa using f3
  rintro _ M1 rfl
  simp (config := {maxSteps := 4000000, dsimp := false, implicitDefEqProofs := false}) [↓zd2, ↓ze0, ↓zc2, ↓zcc, ↓zc0, ↓zd7, ↓zd9, ↓zc5, ↓zc6, ↓zbd, ↓zda, ↓zd0, ↓zc3, ↓zc4, ↓zd5, ↓zd6, ↓zdb, ↓zbe, ↓zce, ↓zdf, ↓zde, ↓zdd, ↓zdc, ↓ze1, ↓zd3, ↓zd4, ↓zc8, ↓zbf, ↓zc1, ↓zcf, ↓zca, ↓zcb, ↓zd1, ↓zcd, ↓zc9, ↓zd8, ↓zc7, ↓w_compL_nil, ↓w_compL_cons, ↓ze4, ↓ze3, ↓ze2, ↓ze5, ↓z106, ↓z103, ↓z105, ↓z101, ↓z107, ↓z104, ↓z102, ↓ze8, ↓zf5, ↓zfd, ↓zf6, ↓zfb, ↓ze6, ↓zfc, ↓zf4, ↓ze9, ↓ze7, ↓zf2, ↓zed, ↓zf3, ↓zec, ↓zf1, ↓zee, ↓zef, ↓zfe, ↓zf9, ↓zfa, ↓zf8, ↓zf7, ↓zea, ↓zeb, ↓zf0, ↓z100, ↓zff, ↓z1q, ↓z1q', ↓z12, ↓z12', ↓z2a, ↓z2a', ↓z1c, ↓z7, ↓z15, ↓z21, ↓ze, ↓z19, ↓z26, ↓z3, ↓zc, ↓zd, ↓zf, ↓z27, ↓z8, WO_some, WO_none, IfO_true, IfO_false, z10, za, z0, z1a, z17, z11, z28, z29, z1d, z1f, z23, z1b, ↓z73, ↓z74, ↓z6f, ↓z71, ↓z72, ↓z31, ↓z30, ↓z2f, ↓z2c, ↓z2e, ↓z78, ↓z76, ↓z75, ↓z79, ↓z77, if_ok, if_bl, if_and, if_or, getV, getB, opBin, opCmp, opIdx, opCut, opBi, tru, look, look_r, eqD, eqDs, Z.pure, pures, dep, deps, put_m, put_nx, new_m, new_nx, putIx, putOwn, insOf, lkN, putL, putN, thaw, getO, ixOf, LIM, B64, asI, Z.b2, z6d, z6e, z4a, z4b, z48, z49, z69, z6a, z32, z33, z34, z35, z36, z37, z42, z43, z3e, z3f, z40, z41, z38, z39, z3a, z3b, z3c, z3d, z44, z45, z6b, z6c, z52, z53, z56, z57, z58, z66, z67, z68, z5e, z5f, z60, z59, z5a, z64, z65, z50, z51, z4e, z4f, z54, z55, z61, z62, z63, z5b, z5c, z5d, z4c, z4d, z46, z47, z82, z83, z84, z85, z86, z87, z88, zbc, zbb, zba, t_prp_0_7, z8a, z89, z7a, z7b, z7c, z7d, z7e, z7f, z80, z81, z8b, z8c, z97, za2, zad, zb5, zb6, zb7, zb8, zb9, z8d, z8e, z8f, z90, z91, z92, z93, z94, z95, z96, z98, z99, z9a, z9b, z9c, z9d, z9e, z9f, za0, za1, za3, za4, za5, za6, za7, za8, za9, zaa, zab, zac, zae, zaf, zb0, zb1, zb2, zb3, zb4, opBm, s__, s__on, s_x, s____, z1, z2, hs, c22, c23, c32, c33, asStrs, joinL]
  repeat refine IfO.mk (by omega) ?_
  refine (refused_ok q _ ?_ 0 ?_ _).go ?_
  · first | omega | (simp; omega)
  · first | exact f4 | simpa using f4
  rintro _ M1 rfl
  simp (config := {maxSteps := 4000000, dsimp := false, implicitDefEqProofs := false}) [↓zd2, ↓ze0, ↓zc2, ↓zcc, ↓zc0, ↓zd7, ↓zd9, ↓zc5, ↓zc6, ↓zbd, ↓zda, ↓zd0, ↓zc3, ↓zc4, ↓zd5, ↓zd6, ↓zdb, ↓zbe, ↓zce, ↓zdf, ↓zde, ↓zdd, ↓zdc, ↓ze1, ↓zd3, ↓zd4, ↓zc8, ↓zbf, ↓zc1, ↓zcf, ↓zca, ↓zcb, ↓zd1, ↓zcd, ↓zc9, ↓zd8, ↓zc7, ↓w_compL_nil, ↓w_compL_cons, ↓ze4, ↓ze3, ↓ze2, ↓ze5, ↓z106, ↓z103, ↓z105, ↓z101, ↓z107, ↓z104, ↓z102, ↓ze8, ↓zf5, ↓zfd, ↓zf6, ↓zfb, ↓ze6, ↓zfc, ↓zf4, ↓ze9, ↓ze7, ↓zf2, ↓zed, ↓zf3, ↓zec, ↓zf1, ↓zee, ↓zef, ↓zfe, ↓zf9, ↓zfa, ↓zf8, ↓zf7, ↓zea, ↓zeb, ↓zf0, ↓z100, ↓zff, ↓z1q, ↓z1q', ↓z12, ↓z12', ↓z2a, ↓z2a', ↓z1c, ↓z7, ↓z15, ↓z21, ↓ze, ↓z19, ↓z26, ↓z3, ↓zc, ↓zd, ↓zf, ↓z27, ↓z8, WO_some, WO_none, IfO_true, IfO_false, z10, za, z0, z1a, z17, z11, z28, z29, z1d, z1f, z23, z1b, ↓z73, ↓z74, ↓z6f, ↓z71, ↓z72, ↓z31, ↓z30, ↓z2f, ↓z2c, ↓z2e, ↓z78, ↓z76, ↓z75, ↓z79, ↓z77, if_ok, if_bl, if_and, if_or, getV, getB, opBin, opCmp, opIdx, opCut, opBi, tru, look, look_r, eqD, eqDs, Z.pure, pures, dep, deps, put_m, put_nx, new_m, new_nx, putIx, putOwn, insOf, lkN, putL, putN, thaw, getO, ixOf, LIM, B64, asI, Z.b2, z6d, z6e, z4a, z4b, z48, z49, z69, z6a, z32, z33, z34, z35, z36, z37, z42, z43, z3e, z3f, z40, z41, z38, z39, z3a, z3b, z3c, z3d, z44, z45, z6b, z6c, z52, z53, z56, z57, z58, z66, z67, z68, z5e, z5f, z60, z59, z5a, z64, z65, z50, z51, z4e, z4f, z54, z55, z61, z62, z63, z5b, z5c, z5d, z4c, z4d, z46, z47, z82, z83, z84, z85, z86, z87, z88, zbc, zbb, zba, t_prp_0_7, z8a, z89, z7a, z7b, z7c, z7d, z7e, z7f, z80, z81, z8b, z8c, z97, za2, zad, zb5, zb6, zb7, zb8, zb9, z8d, z8e, z8f, z90, z91, z92, z93, z94, z95, z96, z98, z99, z9a, z9b, z9c, z9d, z9e, z9f, za0, za1, za3, za4, za5, za6, za7, za8, za9, zaa, zab, zac, zae, zaf, zb0, zb1, zb2, zb3, zb4, opBm, s__, s__on, s_x, s____, z1, z2, hs, c22, c23, c32, c33, asStrs, joinL]
  repeat refine IfO.mk (by omega) ?_
  refine (refused_ok q _ ?_ 0 ?_ _).go ?_
  · first | omega | (simp; omega)
  · first | exact f5 | simpa using f5
  rintro _ M1 rfl
  simp (config := {maxSteps := 4000000, dsimp := false, implicitDefEqProofs := false}) [↓zd2, ↓ze0, ↓zc2, ↓zcc, ↓zc0, ↓zd7, ↓zd9, ↓zc5, ↓zc6, ↓zbd, ↓zda, ↓zd0, ↓zc3, ↓zc4, ↓zd5, ↓zd6, ↓zdb, ↓zbe, ↓zce, ↓zdf, ↓zde, ↓zdd, ↓zdc, ↓ze1, ↓zd3, ↓zd4, ↓zc8, ↓zbf, ↓zc1, ↓zcf, ↓zca, ↓zcb, ↓zd1, ↓zcd, ↓zc9, ↓zd8, ↓zc7, ↓w_compL_nil, ↓w_compL_cons, ↓ze4, ↓ze3, ↓ze2, ↓ze5, ↓z106, ↓z103, ↓z105, ↓z101, ↓z107, ↓z104, ↓z102, ↓ze8, ↓zf5, ↓zfd, ↓zf6, ↓zfb, ↓ze6, ↓zfc, ↓zf4, ↓ze9, ↓ze7, ↓zf2, ↓zed, ↓zf3, ↓zec, ↓zf1, ↓zee, ↓zef, ↓zfe, ↓zf9, ↓zfa, ↓zf8, ↓zf7, ↓zea, ↓zeb, ↓zf0, ↓z100, ↓zff, ↓z1q, ↓z1q', ↓z12, ↓z12', ↓z2a, ↓z2a', ↓z1c, ↓z7, ↓z15, ↓z21, ↓ze, ↓z19, ↓z26, ↓z3, ↓zc, ↓zd, ↓zf, ↓z27, ↓z8, WO_some, WO_none, IfO_true, IfO_false, z10, za, z0, z1a, z17, z11, z28, z29, z1d, z1f, z23, z1b, ↓z73, ↓z74, ↓z6f, ↓z71, ↓z72, ↓z31, ↓z30, ↓z2f, ↓z2c, ↓z2e, ↓z78, ↓z76, ↓z75, ↓z79, ↓z77, if_ok, if_bl, if_and, if_or, getV, getB, opBin, opCmp, opIdx, opCut, opBi, tru, look, look_r, eqD, eqDs, Z.pure, pures, dep, deps, put_m, put_nx, new_m, new_nx, putIx, putOwn, insOf, lkN, putL, putN, thaw, getO, ixOf, LIM, B64, asI, Z.b2, z6d, z6e, z4a, z4b, z48, z49, z69, z6a, z32, z33, z34, z35, z36, z37, z42, z43, z3e, z3f, z40, z41, z38, z39, z3a, z3b, z3c, z3d, z44, z45, z6b, z6c, z52, z53, z56, z57, z58, z66, z67, z68, z5e, z5f, z60, z59, z5a, z64, z65, z50, z51, z4e, z4f, z54, z55, z61, z62, z63, z5b, z5c, z5d, z4c, z4d, z46, z47, z82, z83, z84, z85, z86, z87, z88, zbc, zbb, zba, t_prp_0_7, z8a, z89, z7a, z7b, z7c, z7d, z7e, z7f, z80, z81, z8b, z8c, z97, za2, zad, zb5, zb6, zb7, zb8, zb9, z8d, z8e, z8f, z90, z91, z92, z93, z94, z95, z96, z98, z99, z9a, z9b, z9c, z9d, z9e, z9f, za0, za1, za3, za4, za5, za6, za7, za8, za9, zaa, zab, zac, zae, zaf, zb0, zb1, zb2, zb3, zb4, opBm, s__, s__on, s_x, s____, z1, z2, hs, c22, c23, c32, c33, asStrs, joinL]
  repeat refine IfO.mk (by omega) ?_
  refine (refused_ok q _ ?_ 1 ?_ _).go ?_
  · first | omega | (simp; omega)
  · first | exact f6 | simpa using f6
  rintro _ M1 rfl
  simp (config := {maxSteps := 4000000, dsimp := false, implicitDefEqProofs := false}) [↓zd2, ↓ze0, ↓zc2, ↓zcc, ↓zc0, ↓zd7, ↓zd9, ↓zc5, ↓zc6, ↓zbd, ↓zda, ↓zd0, ↓zc3, ↓zc4, ↓zd5, ↓zd6, ↓zdb, ↓zbe, ↓zce, ↓zdf, ↓zde, ↓zdd, ↓zdc, ↓ze1, ↓zd3, ↓zd4, ↓zc8, ↓zbf, ↓zc1, ↓zcf, ↓zca, ↓zcb, ↓zd1, ↓zcd, ↓zc9, ↓zd8, ↓zc7, ↓w_compL_nil, ↓w_compL_cons, ↓ze4, ↓ze3, ↓ze2, ↓ze5, ↓z106, ↓z103, ↓z105, ↓z101, ↓z107, ↓z104, ↓z102, ↓ze8, ↓zf5, ↓zfd, ↓zf6, ↓zfb, ↓ze6, ↓zfc, ↓zf4, ↓ze9, ↓ze7, ↓zf2, ↓zed, ↓zf3, ↓zec, ↓zf1, ↓zee, ↓zef, ↓zfe, ↓zf9, ↓zfa, ↓zf8, ↓zf7, ↓zea, ↓zeb, ↓zf0, ↓z100, ↓zff, ↓z1q, ↓z1q', ↓z12, ↓z12', ↓z2a, ↓z2a', ↓z1c, ↓z7, ↓z15, ↓z21, ↓ze, ↓z19, ↓z26, ↓z3, ↓zc, ↓zd, ↓zf, ↓z27, ↓z8, WO_some, WO_none, IfO_true, IfO_false, z10, za, z0, z1a, z17, z11, z28, z29, z1d, z1f, z23, z1b, ↓z73, ↓z74, ↓z6f, ↓z71, ↓z72, ↓z31, ↓z30, ↓z2f, ↓z2c, ↓z2e, ↓z78, ↓z76, ↓z75, ↓z79, ↓z77, if_ok, if_bl, if_and, if_or, getV, getB, opBin, opCmp, opIdx, opCut, opBi, tru, look, look_r, eqD, eqDs, Z.pure, pures, dep, deps, put_m, put_nx, new_m, new_nx, putIx, putOwn, insOf, lkN, putL, putN, thaw, getO, ixOf, LIM, B64, asI, Z.b2, z6d, z6e, z4a, z4b, z48, z49, z69, z6a, z32, z33, z34, z35, z36, z37, z42, z43, z3e, z3f, z40, z41, z38, z39, z3a, z3b, z3c, z3d, z44, z45, z6b, z6c, z52, z53, z56, z57, z58, z66, z67, z68, z5e, z5f, z60, z59, z5a, z64, z65, z50, z51, z4e, z4f, z54, z55, z61, z62, z63, z5b, z5c, z5d, z4c, z4d, z46, z47, z82, z83, z84, z85, z86, z87, z88, zbc, zbb, zba, t_prp_0_7, z8a, z89, z7a, z7b, z7c, z7d, z7e, z7f, z80, z81, z8b, z8c, z97, za2, zad, zb5, zb6, zb7, zb8, zb9, z8d, z8e, z8f, z90, z91, z92, z93, z94, z95, z96, z98, z99, z9a, z9b, z9c, z9d, z9e, z9f, za0, za1, za3, za4, za5, za6, za7, za8, za9, zaa, zab, zac, zae, zaf, zb0, zb1, zb2, zb3, zb4]
  exact hF _ _
theorem pb : (s_back = s_put) = False := by decide
theorem pd' : (s_drop = s_put) = False := by decide
theorem ps' : (s_switch = s_put) = False := by decide
def Bl : Ss := match tl 4 b_law with
  | .cons (.for_ _ _ b) _ => b
  | _ => .nil
def setT3 : Ss → Ss → Ss
  | .cons a (.cons b (.cons c (.cons (.ife e _ g) r))), t => .cons a (.cons b (.cons c (.cons (.ife e t g) r)))
  | s, _ => s
theorem Bl_eq : Bl = setT3 Bl Bt := rfl
def LI (x0 x1 x2 : SV) (ds : List D) (σ : List SV) (M' : Sto) : Prop := ∃ (cs : List Int) (x3 x4 x5 x6 : SV), ds = cs.map D.int ∧ σ = [x0, x1, x2, x3, x4, x5, x6]
theorem bl_ok (q : Nat) (F : SRes → Prop) (c : Int) (x0 x1 x2 x4 x5 x6 : SV) (M : Sto) (hF : ∀ x3 x4 x5 x6 M, F (.nx [x0, x1, x2, x3, x4, x5, x6] M)) : WS F (evSs tb.P (Cl (q + 5)) Bl [x0, x1, x2, .val (.int c), x4, x5, x6] M) := by
  rw [Bl_eq]
  unfold Bl b_law
  simp only [tl, setT3]
  simp (config := {maxSteps := 4000000, dsimp := false, implicitDefEqProofs := false}) [↓zd2, ↓ze0, ↓zc2, ↓zcc, ↓zc0, ↓zd7, ↓zd9, ↓zc5, ↓zc6, ↓zbd, ↓zda, ↓zd0, ↓zc3, ↓zc4, ↓zd5, ↓zd6, ↓zdb, ↓zbe, ↓zce, ↓zdf, ↓zde, ↓zdd, ↓zdc, ↓ze1, ↓zd3, ↓zd4, ↓zc8, ↓zbf, ↓zc1, ↓zcf, ↓zca, ↓zcb, ↓zd1, ↓zcd, ↓zc9, ↓zd8, ↓zc7, ↓w_compL_nil, ↓w_compL_cons, ↓ze4, ↓ze3, ↓ze2, ↓ze5, ↓z106, ↓z103, ↓z105, ↓z101, ↓z107, ↓z104, ↓z102, ↓ze8, ↓zf5, ↓zfd, ↓zf6, ↓zfb, ↓ze6, ↓zfc, ↓zf4, ↓ze9, ↓ze7, ↓zf2, ↓zed, ↓zf3, ↓zec, ↓zf1, ↓zee, ↓zef, ↓zfe, ↓zf9, ↓zfa, ↓zf8, ↓zf7, ↓zea, ↓zeb, ↓zf0, ↓z100, ↓zff, ↓z1q, ↓z1q', ↓z12, ↓z12', ↓z2a, ↓z2a', ↓z1c, ↓z7, ↓z15, ↓z21, ↓ze, ↓z19, ↓z26, ↓z3, ↓zc, ↓zd, ↓zf, ↓z27, ↓z8, WO_some, WO_none, IfO_true, IfO_false, z10, za, z0, z1a, z17, z11, z28, z29, z1d, z1f, z23, z1b, ↓z73, ↓z74, ↓z6f, ↓z71, ↓z72, ↓z31, ↓z30, ↓z2f, ↓z2c, ↓z2e, ↓z78, ↓z76, ↓z75, ↓z79, ↓z77, if_ok, if_bl, if_and, if_or, getV, getB, opBin, opCmp, opIdx, opCut, opBi, tru, look, look_r, eqD, eqDs, Z.pure, pures, dep, deps, put_m, put_nx, new_m, new_nx, putIx, putOwn, insOf, lkN, putL, putN, thaw, getO, ixOf, LIM, B64, asI, Z.b2, z6d, z6e, z4a, z4b, z48, z49, z69, z6a, z32, z33, z34, z35, z36, z37, z42, z43, z3e, z3f, z40, z41, z38, z39, z3a, z3b, z3c, z3d, z44, z45, z6b, z6c, z52, z53, z56, z57, z58, z66, z67, z68, z5e, z5f, z60, z59, z5a, z64, z65, z50, z51, z4e, z4f, z54, z55, z61, z62, z63, z5b, z5c, z5d, z4c, z4d, z46, z47, z82, z83, z84, z85, z86, z87, z88, zbc, zbb, zba, t_prp_0_7, z8a, z89, z7a, z7b, z7c, z7d, z7e, z7f, z80, z81, z8b, z8c, z97, za2, zad, zb5, zb6, zb7, zb8, zb9, z8d, z8e, z8f, z90, z91, z92, z93, z94, z95, z96, z98, z99, z9a, z9b, z9c, z9d, z9e, z9f, za0, za1, za3, za4, za5, za6, za7, za8, za9, zaa, zab, zac, zae, zaf, zb0, zb1, zb2, zb3, zb4]
  refine (drawn_ok (q + 1) c M).go ?_
  rintro _ M1 ⟨rfl, e, rfl, he⟩
  have h1 := fun M => line_ok (q + 4) e he M
  have h2 := fun M => text_ok (q + 3) e he M
  have h3 := fun M => same_ok (q + 3) e M
  have rd : ∀ M, RL (lineW e) = .inr e → (lineW e).length ≤ 900 → WR (fun v _ => v = edD e) nX (callA tb.P (Cl (q + 5)) 10 [.str (lineW e)] M) := fun M h hl => by
    have := read_ok (q + 1) (lineW e) hl M
    rw [h] at this
    exact WR.mono this (fun v M' ⟨e', h4, h5⟩ => by cases h4; exact h5) (fun k d M' ⟨n, h4, _⟩ => by cases h4)
  have hf : (RL (lineW e) = .inr e ∧ (lineW e).length ≤ 900) := by
    cases e with
    | put t => exact ⟨fx_put t, by have h : t.length ≤ 200 := he; simp [lineW, s_put_]; omega⟩
    | back k => have f := fx_back he.1 he.2; exact ⟨f.f0, by have := f.l; omega⟩
    | drop s n => obtain ⟨_, _, f⟩ := fx_drop he.1 he.2; exact ⟨f.f0, by have := f.l; omega⟩
    | sw n b => obtain ⟨_, _, f⟩ := fx_sw he b; exact ⟨f.f0, by have := f.l; omega⟩
  simp (config := {maxSteps := 4000000, dsimp := false, implicitDefEqProofs := false}) [↓zd2, ↓ze0, ↓zc2, ↓zcc, ↓zc0, ↓zd7, ↓zd9, ↓zc5, ↓zc6, ↓zbd, ↓zda, ↓zd0, ↓zc3, ↓zc4, ↓zd5, ↓zd6, ↓zdb, ↓zbe, ↓zce, ↓zdf, ↓zde, ↓zdd, ↓zdc, ↓ze1, ↓zd3, ↓zd4, ↓zc8, ↓zbf, ↓zc1, ↓zcf, ↓zca, ↓zcb, ↓zd1, ↓zcd, ↓zc9, ↓zd8, ↓zc7, ↓w_compL_nil, ↓w_compL_cons, ↓ze4, ↓ze3, ↓ze2, ↓ze5, ↓z106, ↓z103, ↓z105, ↓z101, ↓z107, ↓z104, ↓z102, ↓ze8, ↓zf5, ↓zfd, ↓zf6, ↓zfb, ↓ze6, ↓zfc, ↓zf4, ↓ze9, ↓ze7, ↓zf2, ↓zed, ↓zf3, ↓zec, ↓zf1, ↓zee, ↓zef, ↓zfe, ↓zf9, ↓zfa, ↓zf8, ↓zf7, ↓zea, ↓zeb, ↓zf0, ↓z100, ↓zff, ↓z1q, ↓z1q', ↓z12, ↓z12', ↓z2a, ↓z2a', ↓z1c, ↓z7, ↓z15, ↓z21, ↓ze, ↓z19, ↓z26, ↓z3, ↓zc, ↓zd, ↓zf, ↓z27, ↓z8, WO_some, WO_none, IfO_true, IfO_false, z10, za, z0, z1a, z17, z11, z28, z29, z1d, z1f, z23, z1b, ↓z73, ↓z74, ↓z6f, ↓z71, ↓z72, ↓z31, ↓z30, ↓z2f, ↓z2c, ↓z2e, ↓z78, ↓z76, ↓z75, ↓z79, ↓z77, if_ok, if_bl, if_and, if_or, getV, getB, opBin, opCmp, opIdx, opCut, opBi, tru, look, look_r, eqD, eqDs, Z.pure, pures, dep, deps, put_m, put_nx, new_m, new_nx, putIx, putOwn, insOf, lkN, putL, putN, thaw, getO, ixOf, LIM, B64, asI, Z.b2, z6d, z6e, z4a, z4b, z48, z49, z69, z6a, z32, z33, z34, z35, z36, z37, z42, z43, z3e, z3f, z40, z41, z38, z39, z3a, z3b, z3c, z3d, z44, z45, z6b, z6c, z52, z53, z56, z57, z58, z66, z67, z68, z5e, z5f, z60, z59, z5a, z64, z65, z50, z51, z4e, z4f, z54, z55, z61, z62, z63, z5b, z5c, z5d, z4c, z4d, z46, z47, z82, z83, z84, z85, z86, z87, z88, zbc, zbb, zba, t_prp_0_7, z8a, z89, z7a, z7b, z7c, z7d, z7e, z7f, z80, z81, z8b, z8c, z97, za2, zad, zb5, zb6, zb7, zb8, zb9, z8d, z8e, z8f, z90, z91, z92, z93, z94, z95, z96, z98, z99, z9a, z9b, z9c, z9d, z9e, z9f, za0, za1, za3, za4, za5, za6, za7, za8, za9, zaa, zab, zac, zae, zaf, zb0, zb1, zb2, zb3, zb4, h1, h2]
  refine (rd _ hf.1 hf.2).go ?_
  rintro _ M2 rfl
  cases e with
  | put t =>
    rw [show edD (.put t) = .tup [.str s_put, .str t] from rfl] at *
    simp (config := {maxSteps := 4000000, dsimp := false, implicitDefEqProofs := false}) [↓zd2, ↓ze0, ↓zc2, ↓zcc, ↓zc0, ↓zd7, ↓zd9, ↓zc5, ↓zc6, ↓zbd, ↓zda, ↓zd0, ↓zc3, ↓zc4, ↓zd5, ↓zd6, ↓zdb, ↓zbe, ↓zce, ↓zdf, ↓zde, ↓zdd, ↓zdc, ↓ze1, ↓zd3, ↓zd4, ↓zc8, ↓zbf, ↓zc1, ↓zcf, ↓zca, ↓zcb, ↓zd1, ↓zcd, ↓zc9, ↓zd8, ↓zc7, ↓w_compL_nil, ↓w_compL_cons, ↓ze4, ↓ze3, ↓ze2, ↓ze5, ↓z106, ↓z103, ↓z105, ↓z101, ↓z107, ↓z104, ↓z102, ↓ze8, ↓zf5, ↓zfd, ↓zf6, ↓zfb, ↓ze6, ↓zfc, ↓zf4, ↓ze9, ↓ze7, ↓zf2, ↓zed, ↓zf3, ↓zec, ↓zf1, ↓zee, ↓zef, ↓zfe, ↓zf9, ↓zfa, ↓zf8, ↓zf7, ↓zea, ↓zeb, ↓zf0, ↓z100, ↓zff, ↓z1q, ↓z1q', ↓z12, ↓z12', ↓z2a, ↓z2a', ↓z1c, ↓z7, ↓z15, ↓z21, ↓ze, ↓z19, ↓z26, ↓z3, ↓zc, ↓zd, ↓zf, ↓z27, ↓z8, WO_some, WO_none, IfO_true, IfO_false, z10, za, z0, z1a, z17, z11, z28, z29, z1d, z1f, z23, z1b, ↓z73, ↓z74, ↓z6f, ↓z71, ↓z72, ↓z31, ↓z30, ↓z2f, ↓z2c, ↓z2e, ↓z78, ↓z76, ↓z75, ↓z79, ↓z77, if_ok, if_bl, if_and, if_or, getV, getB, opBin, opCmp, opIdx, opCut, opBi, tru, look, look_r, eqD, eqDs, Z.pure, pures, dep, deps, put_m, put_nx, new_m, new_nx, putIx, putOwn, insOf, lkN, putL, putN, thaw, getO, ixOf, LIM, B64, asI, Z.b2, z6d, z6e, z4a, z4b, z48, z49, z69, z6a, z32, z33, z34, z35, z36, z37, z42, z43, z3e, z3f, z40, z41, z38, z39, z3a, z3b, z3c, z3d, z44, z45, z6b, z6c, z52, z53, z56, z57, z58, z66, z67, z68, z5e, z5f, z60, z59, z5a, z64, z65, z50, z51, z4e, z4f, z54, z55, z61, z62, z63, z5b, z5c, z5d, z4c, z4d, z46, z47, z82, z83, z84, z85, z86, z87, z88, zbc, zbb, zba, t_prp_0_7, z8a, z89, z7a, z7b, z7c, z7d, z7e, z7f, z80, z81, z8b, z8c, z97, za2, zad, zb5, zb6, zb7, zb8, zb9, z8d, z8e, z8f, z90, z91, z92, z93, z94, z95, z96, z98, z99, z9a, z9b, z9c, z9d, z9e, z9f, za0, za1, za3, za4, za5, za6, za7, za8, za9, zaa, zab, zac, zae, zaf, zb0, zb1, zb2, zb3, zb4, h3]
    exact hF _ _ _ _ _
  | back k =>
    have f := fx_back he.1 he.2
    rw [show edD (.back k) = .tup [.str s_back, .int k] from rfl] at *
    simp (config := {maxSteps := 4000000, dsimp := false, implicitDefEqProofs := false}) [↓zd2, ↓ze0, ↓zc2, ↓zcc, ↓zc0, ↓zd7, ↓zd9, ↓zc5, ↓zc6, ↓zbd, ↓zda, ↓zd0, ↓zc3, ↓zc4, ↓zd5, ↓zd6, ↓zdb, ↓zbe, ↓zce, ↓zdf, ↓zde, ↓zdd, ↓zdc, ↓ze1, ↓zd3, ↓zd4, ↓zc8, ↓zbf, ↓zc1, ↓zcf, ↓zca, ↓zcb, ↓zd1, ↓zcd, ↓zc9, ↓zd8, ↓zc7, ↓w_compL_nil, ↓w_compL_cons, ↓ze4, ↓ze3, ↓ze2, ↓ze5, ↓z106, ↓z103, ↓z105, ↓z101, ↓z107, ↓z104, ↓z102, ↓ze8, ↓zf5, ↓zfd, ↓zf6, ↓zfb, ↓ze6, ↓zfc, ↓zf4, ↓ze9, ↓ze7, ↓zf2, ↓zed, ↓zf3, ↓zec, ↓zf1, ↓zee, ↓zef, ↓zfe, ↓zf9, ↓zfa, ↓zf8, ↓zf7, ↓zea, ↓zeb, ↓zf0, ↓z100, ↓zff, ↓z1q, ↓z1q', ↓z12, ↓z12', ↓z2a, ↓z2a', ↓z1c, ↓z7, ↓z15, ↓z21, ↓ze, ↓z19, ↓z26, ↓z3, ↓zc, ↓zd, ↓zf, ↓z27, ↓z8, WO_some, WO_none, IfO_true, IfO_false, z10, za, z0, z1a, z17, z11, z28, z29, z1d, z1f, z23, z1b, ↓z73, ↓z74, ↓z6f, ↓z71, ↓z72, ↓z31, ↓z30, ↓z2f, ↓z2c, ↓z2e, ↓z78, ↓z76, ↓z75, ↓z79, ↓z77, if_ok, if_bl, if_and, if_or, getV, getB, opBin, opCmp, opIdx, opCut, opBi, tru, look, look_r, eqD, eqDs, Z.pure, pures, dep, deps, put_m, put_nx, new_m, new_nx, putIx, putOwn, insOf, lkN, putL, putN, thaw, getO, ixOf, LIM, B64, asI, Z.b2, z6d, z6e, z4a, z4b, z48, z49, z69, z6a, z32, z33, z34, z35, z36, z37, z42, z43, z3e, z3f, z40, z41, z38, z39, z3a, z3b, z3c, z3d, z44, z45, z6b, z6c, z52, z53, z56, z57, z58, z66, z67, z68, z5e, z5f, z60, z59, z5a, z64, z65, z50, z51, z4e, z4f, z54, z55, z61, z62, z63, z5b, z5c, z5d, z4c, z4d, z46, z47, z82, z83, z84, z85, z86, z87, z88, zbc, zbb, zba, t_prp_0_7, z8a, z89, z7a, z7b, z7c, z7d, z7e, z7f, z80, z81, z8b, z8c, z97, za2, zad, zb5, zb6, zb7, zb8, zb9, z8d, z8e, z8f, z90, z91, z92, z93, z94, z95, z96, z98, z99, z9a, z9b, z9c, z9d, z9e, z9f, za0, za1, za3, za4, za5, za6, za7, za8, za9, zaa, zab, zac, zae, zaf, zb0, zb1, zb2, zb3, zb4, h3, pb]
    refine bt2 q (.back k) _ _ _ _ f _ x0 x1 x2 (.val (.int c)) x6 M2 (fun x6 M => ?_)
    simp (config := {maxSteps := 4000000, dsimp := false, implicitDefEqProofs := false}) [↓zd2, ↓ze0, ↓zc2, ↓zcc, ↓zc0, ↓zd7, ↓zd9, ↓zc5, ↓zc6, ↓zbd, ↓zda, ↓zd0, ↓zc3, ↓zc4, ↓zd5, ↓zd6, ↓zdb, ↓zbe, ↓zce, ↓zdf, ↓zde, ↓zdd, ↓zdc, ↓ze1, ↓zd3, ↓zd4, ↓zc8, ↓zbf, ↓zc1, ↓zcf, ↓zca, ↓zcb, ↓zd1, ↓zcd, ↓zc9, ↓zd8, ↓zc7, ↓w_compL_nil, ↓w_compL_cons, ↓ze4, ↓ze3, ↓ze2, ↓ze5, ↓z106, ↓z103, ↓z105, ↓z101, ↓z107, ↓z104, ↓z102, ↓ze8, ↓zf5, ↓zfd, ↓zf6, ↓zfb, ↓ze6, ↓zfc, ↓zf4, ↓ze9, ↓ze7, ↓zf2, ↓zed, ↓zf3, ↓zec, ↓zf1, ↓zee, ↓zef, ↓zfe, ↓zf9, ↓zfa, ↓zf8, ↓zf7, ↓zea, ↓zeb, ↓zf0, ↓z100, ↓zff, ↓z1q, ↓z1q', ↓z12, ↓z12', ↓z2a, ↓z2a', ↓z1c, ↓z7, ↓z15, ↓z21, ↓ze, ↓z19, ↓z26, ↓z3, ↓zc, ↓zd, ↓zf, ↓z27, ↓z8, WO_some, WO_none, IfO_true, IfO_false, z10, za, z0, z1a, z17, z11, z28, z29, z1d, z1f, z23, z1b, ↓z73, ↓z74, ↓z6f, ↓z71, ↓z72, ↓z31, ↓z30, ↓z2f, ↓z2c, ↓z2e, ↓z78, ↓z76, ↓z75, ↓z79, ↓z77, if_ok, if_bl, if_and, if_or, getV, getB, opBin, opCmp, opIdx, opCut, opBi, tru, look, look_r, eqD, eqDs, Z.pure, pures, dep, deps, put_m, put_nx, new_m, new_nx, putIx, putOwn, insOf, lkN, putL, putN, thaw, getO, ixOf, LIM, B64, asI, Z.b2, z6d, z6e, z4a, z4b, z48, z49, z69, z6a, z32, z33, z34, z35, z36, z37, z42, z43, z3e, z3f, z40, z41, z38, z39, z3a, z3b, z3c, z3d, z44, z45, z6b, z6c, z52, z53, z56, z57, z58, z66, z67, z68, z5e, z5f, z60, z59, z5a, z64, z65, z50, z51, z4e, z4f, z54, z55, z61, z62, z63, z5b, z5c, z5d, z4c, z4d, z46, z47, z82, z83, z84, z85, z86, z87, z88, zbc, zbb, zba, t_prp_0_7, z8a, z89, z7a, z7b, z7c, z7d, z7e, z7f, z80, z81, z8b, z8c, z97, za2, zad, zb5, zb6, zb7, zb8, zb9, z8d, z8e, z8f, z90, z91, z92, z93, z94, z95, z96, z98, z99, z9a, z9b, z9c, z9d, z9e, z9f, za0, za1, za3, za4, za5, za6, za7, za8, za9, zaa, zab, zac, zae, zaf, zb0, zb1, zb2, zb3, zb4]
    exact hF _ _ _ _ _
  | drop s n =>
    obtain ⟨l1, l6, f⟩ := fx_drop he.1 he.2
    rw [show edD (.drop s n) = .tup [.str s_drop, .str s, .str n] from rfl] at *
    simp (config := {maxSteps := 4000000, dsimp := false, implicitDefEqProofs := false}) [↓zd2, ↓ze0, ↓zc2, ↓zcc, ↓zc0, ↓zd7, ↓zd9, ↓zc5, ↓zc6, ↓zbd, ↓zda, ↓zd0, ↓zc3, ↓zc4, ↓zd5, ↓zd6, ↓zdb, ↓zbe, ↓zce, ↓zdf, ↓zde, ↓zdd, ↓zdc, ↓ze1, ↓zd3, ↓zd4, ↓zc8, ↓zbf, ↓zc1, ↓zcf, ↓zca, ↓zcb, ↓zd1, ↓zcd, ↓zc9, ↓zd8, ↓zc7, ↓w_compL_nil, ↓w_compL_cons, ↓ze4, ↓ze3, ↓ze2, ↓ze5, ↓z106, ↓z103, ↓z105, ↓z101, ↓z107, ↓z104, ↓z102, ↓ze8, ↓zf5, ↓zfd, ↓zf6, ↓zfb, ↓ze6, ↓zfc, ↓zf4, ↓ze9, ↓ze7, ↓zf2, ↓zed, ↓zf3, ↓zec, ↓zf1, ↓zee, ↓zef, ↓zfe, ↓zf9, ↓zfa, ↓zf8, ↓zf7, ↓zea, ↓zeb, ↓zf0, ↓z100, ↓zff, ↓z1q, ↓z1q', ↓z12, ↓z12', ↓z2a, ↓z2a', ↓z1c, ↓z7, ↓z15, ↓z21, ↓ze, ↓z19, ↓z26, ↓z3, ↓zc, ↓zd, ↓zf, ↓z27, ↓z8, WO_some, WO_none, IfO_true, IfO_false, z10, za, z0, z1a, z17, z11, z28, z29, z1d, z1f, z23, z1b, ↓z73, ↓z74, ↓z6f, ↓z71, ↓z72, ↓z31, ↓z30, ↓z2f, ↓z2c, ↓z2e, ↓z78, ↓z76, ↓z75, ↓z79, ↓z77, if_ok, if_bl, if_and, if_or, getV, getB, opBin, opCmp, opIdx, opCut, opBi, tru, look, look_r, eqD, eqDs, Z.pure, pures, dep, deps, put_m, put_nx, new_m, new_nx, putIx, putOwn, insOf, lkN, putL, putN, thaw, getO, ixOf, LIM, B64, asI, Z.b2, z6d, z6e, z4a, z4b, z48, z49, z69, z6a, z32, z33, z34, z35, z36, z37, z42, z43, z3e, z3f, z40, z41, z38, z39, z3a, z3b, z3c, z3d, z44, z45, z6b, z6c, z52, z53, z56, z57, z58, z66, z67, z68, z5e, z5f, z60, z59, z5a, z64, z65, z50, z51, z4e, z4f, z54, z55, z61, z62, z63, z5b, z5c, z5d, z4c, z4d, z46, z47, z82, z83, z84, z85, z86, z87, z88, zbc, zbb, zba, t_prp_0_7, z8a, z89, z7a, z7b, z7c, z7d, z7e, z7f, z80, z81, z8b, z8c, z97, za2, zad, zb5, zb6, zb7, zb8, zb9, z8d, z8e, z8f, z90, z91, z92, z93, z94, z95, z96, z98, z99, z9a, z9b, z9c, z9d, z9e, z9f, za0, za1, za3, za4, za5, za6, za7, za8, za9, zaa, zab, zac, zae, zaf, zb0, zb1, zb2, zb3, zb4, h3, pd']
    refine bt3 q (.drop s n) _ _ _ _ _ f _ x0 x1 x2 (.val (.int c)) x6 M2 (fun x6 M => ?_)
    simp (config := {maxSteps := 4000000, dsimp := false, implicitDefEqProofs := false}) [↓zd2, ↓ze0, ↓zc2, ↓zcc, ↓zc0, ↓zd7, ↓zd9, ↓zc5, ↓zc6, ↓zbd, ↓zda, ↓zd0, ↓zc3, ↓zc4, ↓zd5, ↓zd6, ↓zdb, ↓zbe, ↓zce, ↓zdf, ↓zde, ↓zdd, ↓zdc, ↓ze1, ↓zd3, ↓zd4, ↓zc8, ↓zbf, ↓zc1, ↓zcf, ↓zca, ↓zcb, ↓zd1, ↓zcd, ↓zc9, ↓zd8, ↓zc7, ↓w_compL_nil, ↓w_compL_cons, ↓ze4, ↓ze3, ↓ze2, ↓ze5, ↓z106, ↓z103, ↓z105, ↓z101, ↓z107, ↓z104, ↓z102, ↓ze8, ↓zf5, ↓zfd, ↓zf6, ↓zfb, ↓ze6, ↓zfc, ↓zf4, ↓ze9, ↓ze7, ↓zf2, ↓zed, ↓zf3, ↓zec, ↓zf1, ↓zee, ↓zef, ↓zfe, ↓zf9, ↓zfa, ↓zf8, ↓zf7, ↓zea, ↓zeb, ↓zf0, ↓z100, ↓zff, ↓z1q, ↓z1q', ↓z12, ↓z12', ↓z2a, ↓z2a', ↓z1c, ↓z7, ↓z15, ↓z21, ↓ze, ↓z19, ↓z26, ↓z3, ↓zc, ↓zd, ↓zf, ↓z27, ↓z8, WO_some, WO_none, IfO_true, IfO_false, z10, za, z0, z1a, z17, z11, z28, z29, z1d, z1f, z23, z1b, ↓z73, ↓z74, ↓z6f, ↓z71, ↓z72, ↓z31, ↓z30, ↓z2f, ↓z2c, ↓z2e, ↓z78, ↓z76, ↓z75, ↓z79, ↓z77, if_ok, if_bl, if_and, if_or, getV, getB, opBin, opCmp, opIdx, opCut, opBi, tru, look, look_r, eqD, eqDs, Z.pure, pures, dep, deps, put_m, put_nx, new_m, new_nx, putIx, putOwn, insOf, lkN, putL, putN, thaw, getO, ixOf, LIM, B64, asI, Z.b2, z6d, z6e, z4a, z4b, z48, z49, z69, z6a, z32, z33, z34, z35, z36, z37, z42, z43, z3e, z3f, z40, z41, z38, z39, z3a, z3b, z3c, z3d, z44, z45, z6b, z6c, z52, z53, z56, z57, z58, z66, z67, z68, z5e, z5f, z60, z59, z5a, z64, z65, z50, z51, z4e, z4f, z54, z55, z61, z62, z63, z5b, z5c, z5d, z4c, z4d, z46, z47, z82, z83, z84, z85, z86, z87, z88, zbc, zbb, zba, t_prp_0_7, z8a, z89, z7a, z7b, z7c, z7d, z7e, z7f, z80, z81, z8b, z8c, z97, za2, zad, zb5, zb6, zb7, zb8, zb9, z8d, z8e, z8f, z90, z91, z92, z93, z94, z95, z96, z98, z99, z9a, z9b, z9c, z9d, z9e, z9f, za0, za1, za3, za4, za5, za6, za7, za8, za9, zaa, zab, zac, zae, zaf, zb0, zb1, zb2, zb3, zb4]
    exact hF _ _ _ _ _
  | sw n b0 =>
    obtain ⟨l1, l6, f⟩ := fx_sw he b0
    rw [show edD (.sw n b0) = .tup [.str s_switch, .str n, .bl b0] from rfl] at *
    simp (config := {maxSteps := 4000000, dsimp := false, implicitDefEqProofs := false}) [↓zd2, ↓ze0, ↓zc2, ↓zcc, ↓zc0, ↓zd7, ↓zd9, ↓zc5, ↓zc6, ↓zbd, ↓zda, ↓zd0, ↓zc3, ↓zc4, ↓zd5, ↓zd6, ↓zdb, ↓zbe, ↓zce, ↓zdf, ↓zde, ↓zdd, ↓zdc, ↓ze1, ↓zd3, ↓zd4, ↓zc8, ↓zbf, ↓zc1, ↓zcf, ↓zca, ↓zcb, ↓zd1, ↓zcd, ↓zc9, ↓zd8, ↓zc7, ↓w_compL_nil, ↓w_compL_cons, ↓ze4, ↓ze3, ↓ze2, ↓ze5, ↓z106, ↓z103, ↓z105, ↓z101, ↓z107, ↓z104, ↓z102, ↓ze8, ↓zf5, ↓zfd, ↓zf6, ↓zfb, ↓ze6, ↓zfc, ↓zf4, ↓ze9, ↓ze7, ↓zf2, ↓zed, ↓zf3, ↓zec, ↓zf1, ↓zee, ↓zef, ↓zfe, ↓zf9, ↓zfa, ↓zf8, ↓zf7, ↓zea, ↓zeb, ↓zf0, ↓z100, ↓zff, ↓z1q, ↓z1q', ↓z12, ↓z12', ↓z2a, ↓z2a', ↓z1c, ↓z7, ↓z15, ↓z21, ↓ze, ↓z19, ↓z26, ↓z3, ↓zc, ↓zd, ↓zf, ↓z27, ↓z8, WO_some, WO_none, IfO_true, IfO_false, z10, za, z0, z1a, z17, z11, z28, z29, z1d, z1f, z23, z1b, ↓z73, ↓z74, ↓z6f, ↓z71, ↓z72, ↓z31, ↓z30, ↓z2f, ↓z2c, ↓z2e, ↓z78, ↓z76, ↓z75, ↓z79, ↓z77, if_ok, if_bl, if_and, if_or, getV, getB, opBin, opCmp, opIdx, opCut, opBi, tru, look, look_r, eqD, eqDs, Z.pure, pures, dep, deps, put_m, put_nx, new_m, new_nx, putIx, putOwn, insOf, lkN, putL, putN, thaw, getO, ixOf, LIM, B64, asI, Z.b2, z6d, z6e, z4a, z4b, z48, z49, z69, z6a, z32, z33, z34, z35, z36, z37, z42, z43, z3e, z3f, z40, z41, z38, z39, z3a, z3b, z3c, z3d, z44, z45, z6b, z6c, z52, z53, z56, z57, z58, z66, z67, z68, z5e, z5f, z60, z59, z5a, z64, z65, z50, z51, z4e, z4f, z54, z55, z61, z62, z63, z5b, z5c, z5d, z4c, z4d, z46, z47, z82, z83, z84, z85, z86, z87, z88, zbc, zbb, zba, t_prp_0_7, z8a, z89, z7a, z7b, z7c, z7d, z7e, z7f, z80, z81, z8b, z8c, z97, za2, zad, zb5, zb6, zb7, zb8, zb9, z8d, z8e, z8f, z90, z91, z92, z93, z94, z95, z96, z98, z99, z9a, z9b, z9c, z9d, z9e, z9f, za0, za1, za3, za4, za5, za6, za7, za8, za9, zaa, zab, zac, zae, zaf, zb0, zb1, zb2, zb3, zb4, h3, ps']
    refine bt3 q (.sw n b0) _ _ _ _ _ f _ x0 x1 x2 (.val (.int c)) x6 M2 (fun x6 M => ?_)
    simp (config := {maxSteps := 4000000, dsimp := false, implicitDefEqProofs := false}) [↓zd2, ↓ze0, ↓zc2, ↓zcc, ↓zc0, ↓zd7, ↓zd9, ↓zc5, ↓zc6, ↓zbd, ↓zda, ↓zd0, ↓zc3, ↓zc4, ↓zd5, ↓zd6, ↓zdb, ↓zbe, ↓zce, ↓zdf, ↓zde, ↓zdd, ↓zdc, ↓ze1, ↓zd3, ↓zd4, ↓zc8, ↓zbf, ↓zc1, ↓zcf, ↓zca, ↓zcb, ↓zd1, ↓zcd, ↓zc9, ↓zd8, ↓zc7, ↓w_compL_nil, ↓w_compL_cons, ↓ze4, ↓ze3, ↓ze2, ↓ze5, ↓z106, ↓z103, ↓z105, ↓z101, ↓z107, ↓z104, ↓z102, ↓ze8, ↓zf5, ↓zfd, ↓zf6, ↓zfb, ↓ze6, ↓zfc, ↓zf4, ↓ze9, ↓ze7, ↓zf2, ↓zed, ↓zf3, ↓zec, ↓zf1, ↓zee, ↓zef, ↓zfe, ↓zf9, ↓zfa, ↓zf8, ↓zf7, ↓zea, ↓zeb, ↓zf0, ↓z100, ↓zff, ↓z1q, ↓z1q', ↓z12, ↓z12', ↓z2a, ↓z2a', ↓z1c, ↓z7, ↓z15, ↓z21, ↓ze, ↓z19, ↓z26, ↓z3, ↓zc, ↓zd, ↓zf, ↓z27, ↓z8, WO_some, WO_none, IfO_true, IfO_false, z10, za, z0, z1a, z17, z11, z28, z29, z1d, z1f, z23, z1b, ↓z73, ↓z74, ↓z6f, ↓z71, ↓z72, ↓z31, ↓z30, ↓z2f, ↓z2c, ↓z2e, ↓z78, ↓z76, ↓z75, ↓z79, ↓z77, if_ok, if_bl, if_and, if_or, getV, getB, opBin, opCmp, opIdx, opCut, opBi, tru, look, look_r, eqD, eqDs, Z.pure, pures, dep, deps, put_m, put_nx, new_m, new_nx, putIx, putOwn, insOf, lkN, putL, putN, thaw, getO, ixOf, LIM, B64, asI, Z.b2, z6d, z6e, z4a, z4b, z48, z49, z69, z6a, z32, z33, z34, z35, z36, z37, z42, z43, z3e, z3f, z40, z41, z38, z39, z3a, z3b, z3c, z3d, z44, z45, z6b, z6c, z52, z53, z56, z57, z58, z66, z67, z68, z5e, z5f, z60, z59, z5a, z64, z65, z50, z51, z4e, z4f, z54, z55, z61, z62, z63, z5b, z5c, z5d, z4c, z4d, z46, z47, z82, z83, z84, z85, z86, z87, z88, zbc, zbb, zba, t_prp_0_7, z8a, z89, z7a, z7b, z7c, z7d, z7e, z7f, z80, z81, z8b, z8c, z97, za2, zad, zb5, zb6, zb7, zb8, zb9, z8d, z8e, z8f, z90, z91, z92, z93, z94, z95, z96, z98, z99, z9a, z9b, z9c, z9d, z9e, z9f, za0, za1, za3, za4, za5, za6, za7, za8, za9, zaa, zab, zac, zae, zaf, zb0, zb1, zb2, zb3, zb4]
    exact hF _ _ _ _ _
def La : Ss := tl 2 b_law
def setF4 : Ss → Ss → Ss
  | .cons a (.cons b (.cons c (.cons d (.cons (.for_ T it _) g)))), t => .cons a (.cons b (.cons c (.cons d (.cons (.for_ T it t) g))))
  | s, _ => s
theorem law_eq : b_law = setF4 b_law Bl := rfl
def lns : List (W × Nat) := [(s_put, 1), (s_back_01, 1), (s_back_65536, 1), (s_drop_var_end, 2), (s_drop_n0_n0, 1), (s_switch_x123456789012, 1), (s_switch_n0_up, 2), (s_back__1, 1), (s_drop_var_0n, 2), (s_, 0)]
def lnD (p : W × Nat) : D := .tup [.str p.1, .int p.2]
theorem lns_ok : ∀ p ∈ lns, RL p.1 = .inl p.2 ∧ p.1.length ≤ 900 := by
  intro p hp
  simp only [lns, List.mem_cons, List.not_mem_nil, or_false] at hp
  rcases hp with h | h | h | h | h | h | h | h | h | h <;> subst h <;> exact ⟨by decide +kernel, by decide⟩
def L1 (x0 x3 x4 x5 x6 : SV) (ds : List D) (σ : List SV) (M' : Sto) : Prop := ∃ (dn rs : List (W × Nat)) (x2 : SV), lns = dn ++ rs ∧ ds = rs.map lnD ∧ σ = [x0, .val (.lst (lns.map lnD)), x2, x3, x4, x5, x6]
theorem law_ok (q : Nat) (ns : List Int) (M : Sto) : WR (fun v _ => v = .bl true) nX (callA tb.P (Cl (q + 6)) 22 [.frl (ns.map D.int)] M) := by
  rw [c_law, z8, law_eq]
  unfold b_law
  simp only [setF4]
  have hl : [D.tup [.str s_put, .int 1], .tup [.str s_back_01, .int 1], .tup [.str s_back_65536, .int 1], .tup [.str s_drop_var_end, .int 2], .tup [.str s_drop_n0_n0, .int 1], .tup [.str s_switch_x123456789012, .int 1], .tup [.str s_switch_n0_up, .int 2], .tup [.str s_back__1, .int 1], .tup [.str s_drop_var_0n, .int 2], .tup [.str s_, .int 0]] = lns.map lnD := rfl
  simp (config := {maxSteps := 4000000, dsimp := false, implicitDefEqProofs := false}) [↓zd2, ↓ze0, ↓zc2, ↓zcc, ↓zc0, ↓zd7, ↓zd9, ↓zc5, ↓zc6, ↓zbd, ↓zda, ↓zd0, ↓zc3, ↓zc4, ↓zd5, ↓zd6, ↓zdb, ↓zbe, ↓zce, ↓zdf, ↓zde, ↓zdd, ↓zdc, ↓ze1, ↓zd3, ↓zd4, ↓zc8, ↓zbf, ↓zc1, ↓zcf, ↓zca, ↓zcb, ↓zd1, ↓zcd, ↓zc9, ↓zd8, ↓zc7, ↓w_compL_nil, ↓w_compL_cons, ↓ze4, ↓ze3, ↓ze2, ↓ze5, ↓z106, ↓z103, ↓z105, ↓z101, ↓z107, ↓z104, ↓z102, ↓ze8, ↓zf5, ↓zfd, ↓zf6, ↓zfb, ↓ze6, ↓zfc, ↓zf4, ↓ze9, ↓ze7, ↓zf2, ↓zed, ↓zf3, ↓zec, ↓zf1, ↓zee, ↓zef, ↓zfe, ↓zf9, ↓zfa, ↓zf8, ↓zf7, ↓zea, ↓zeb, ↓zf0, ↓z100, ↓zff, ↓z1q, ↓z1q', ↓z12, ↓z12', ↓z2a, ↓z2a', ↓z1c, ↓z7, ↓z15, ↓z21, ↓ze, ↓z19, ↓z26, ↓z3, ↓zc, ↓zd, ↓zf, ↓z27, ↓z8, WO_some, WO_none, IfO_true, IfO_false, z10, za, z0, z1a, z17, z11, z28, z29, z1d, z1f, z23, z1b, ↓z73, ↓z74, ↓z6f, ↓z71, ↓z72, ↓z31, ↓z30, ↓z2f, ↓z2c, ↓z2e, ↓z78, ↓z76, ↓z75, ↓z79, ↓z77, if_ok, if_bl, if_and, if_or, getV, getB, opBin, opCmp, opIdx, opCut, opBi, tru, look, look_r, eqD, eqDs, Z.pure, pures, dep, deps, put_m, put_nx, new_m, new_nx, putIx, putOwn, insOf, lkN, putL, putN, thaw, getO, ixOf, LIM, B64, asI, Z.b2, z6d, z6e, z4a, z4b, z48, z49, z69, z6a, z32, z33, z34, z35, z36, z37, z42, z43, z3e, z3f, z40, z41, z38, z39, z3a, z3b, z3c, z3d, z44, z45, z6b, z6c, z52, z53, z56, z57, z58, z66, z67, z68, z5e, z5f, z60, z59, z5a, z64, z65, z50, z51, z4e, z4f, z54, z55, z61, z62, z63, z5b, z5c, z5d, z4c, z4d, z46, z47, z82, z83, z84, z85, z86, z87, z88, zbc, zbb, zba, t_prp_0_7, z8a, z89, z7a, z7b, z7c, z7d, z7e, z7f, z80, z81, z8b, z8c, z97, za2, zad, zb5, zb6, zb7, zb8, zb9, z8d, z8e, z8f, z90, z91, z92, z93, z94, z95, z96, z98, z99, z9a, z9b, z9c, z9d, z9e, z9f, za0, za1, za3, za4, za5, za6, za7, za8, za9, zaa, zab, zac, zae, zaf, zb0, zb1, zb2, zb3, zb4, seqI]
  rw [hl]
  refine z24 (I := L1 (.val (.frl (ns.map D.int))) .non .non .non .non) ?_ ?_ _ _ _ ?_
  · rintro d ds σ M2 ⟨dn, rs, x2, el, ed, rfl⟩
    cases rs with
    | nil => cases ed
    | cons p rs =>
      cases ed
      refine ⟨_, rfl, ?_⟩
      obtain ⟨h1, h2⟩ := lns_ok p (by rw [el]; simp)
      simp (config := {maxSteps := 4000000, dsimp := false, implicitDefEqProofs := false}) [↓zd2, ↓ze0, ↓zc2, ↓zcc, ↓zc0, ↓zd7, ↓zd9, ↓zc5, ↓zc6, ↓zbd, ↓zda, ↓zd0, ↓zc3, ↓zc4, ↓zd5, ↓zd6, ↓zdb, ↓zbe, ↓zce, ↓zdf, ↓zde, ↓zdd, ↓zdc, ↓ze1, ↓zd3, ↓zd4, ↓zc8, ↓zbf, ↓zc1, ↓zcf, ↓zca, ↓zcb, ↓zd1, ↓zcd, ↓zc9, ↓zd8, ↓zc7, ↓w_compL_nil, ↓w_compL_cons, ↓ze4, ↓ze3, ↓ze2, ↓ze5, ↓z106, ↓z103, ↓z105, ↓z101, ↓z107, ↓z104, ↓z102, ↓ze8, ↓zf5, ↓zfd, ↓zf6, ↓zfb, ↓ze6, ↓zfc, ↓zf4, ↓ze9, ↓ze7, ↓zf2, ↓zed, ↓zf3, ↓zec, ↓zf1, ↓zee, ↓zef, ↓zfe, ↓zf9, ↓zfa, ↓zf8, ↓zf7, ↓zea, ↓zeb, ↓zf0, ↓z100, ↓zff, ↓z1q, ↓z1q', ↓z12, ↓z12', ↓z2a, ↓z2a', ↓z1c, ↓z7, ↓z15, ↓z21, ↓ze, ↓z19, ↓z26, ↓z3, ↓zc, ↓zd, ↓zf, ↓z27, ↓z8, WO_some, WO_none, IfO_true, IfO_false, z10, za, z0, z1a, z17, z11, z28, z29, z1d, z1f, z23, z1b, ↓z73, ↓z74, ↓z6f, ↓z71, ↓z72, ↓z31, ↓z30, ↓z2f, ↓z2c, ↓z2e, ↓z78, ↓z76, ↓z75, ↓z79, ↓z77, if_ok, if_bl, if_and, if_or, getV, getB, opBin, opCmp, opIdx, opCut, opBi, tru, look, look_r, eqD, eqDs, Z.pure, pures, dep, deps, put_m, put_nx, new_m, new_nx, putIx, putOwn, insOf, lkN, putL, putN, thaw, getO, ixOf, LIM, B64, asI, Z.b2, z6d, z6e, z4a, z4b, z48, z49, z69, z6a, z32, z33, z34, z35, z36, z37, z42, z43, z3e, z3f, z40, z41, z38, z39, z3a, z3b, z3c, z3d, z44, z45, z6b, z6c, z52, z53, z56, z57, z58, z66, z67, z68, z5e, z5f, z60, z59, z5a, z64, z65, z50, z51, z4e, z4f, z54, z55, z61, z62, z63, z5b, z5c, z5d, z4c, z4d, z46, z47, z82, z83, z84, z85, z86, z87, z88, zbc, zbb, zba, t_prp_0_7, z8a, z89, z7a, z7b, z7c, z7d, z7e, z7f, z80, z81, z8b, z8c, z97, za2, zad, zb5, zb6, zb7, zb8, zb9, z8d, z8e, z8f, z90, z91, z92, z93, z94, z95, z96, z98, z99, z9a, z9b, z9c, z9d, z9e, z9f, za0, za1, za3, za4, za5, za6, za7, za8, za9, zaa, zab, zac, zae, zaf, zb0, zb1, zb2, zb3, zb4, lnD]
      refine (refused_ok q p.1 h2 p.2 h1 M2).go ?_
      rintro _ M3 rfl
      simp (config := {maxSteps := 4000000, dsimp := false, implicitDefEqProofs := false}) [↓zd2, ↓ze0, ↓zc2, ↓zcc, ↓zc0, ↓zd7, ↓zd9, ↓zc5, ↓zc6, ↓zbd, ↓zda, ↓zd0, ↓zc3, ↓zc4, ↓zd5, ↓zd6, ↓zdb, ↓zbe, ↓zce, ↓zdf, ↓zde, ↓zdd, ↓zdc, ↓ze1, ↓zd3, ↓zd4, ↓zc8, ↓zbf, ↓zc1, ↓zcf, ↓zca, ↓zcb, ↓zd1, ↓zcd, ↓zc9, ↓zd8, ↓zc7, ↓w_compL_nil, ↓w_compL_cons, ↓ze4, ↓ze3, ↓ze2, ↓ze5, ↓z106, ↓z103, ↓z105, ↓z101, ↓z107, ↓z104, ↓z102, ↓ze8, ↓zf5, ↓zfd, ↓zf6, ↓zfb, ↓ze6, ↓zfc, ↓zf4, ↓ze9, ↓ze7, ↓zf2, ↓zed, ↓zf3, ↓zec, ↓zf1, ↓zee, ↓zef, ↓zfe, ↓zf9, ↓zfa, ↓zf8, ↓zf7, ↓zea, ↓zeb, ↓zf0, ↓z100, ↓zff, ↓z1q, ↓z1q', ↓z12, ↓z12', ↓z2a, ↓z2a', ↓z1c, ↓z7, ↓z15, ↓z21, ↓ze, ↓z19, ↓z26, ↓z3, ↓zc, ↓zd, ↓zf, ↓z27, ↓z8, WO_some, WO_none, IfO_true, IfO_false, z10, za, z0, z1a, z17, z11, z28, z29, z1d, z1f, z23, z1b, ↓z73, ↓z74, ↓z6f, ↓z71, ↓z72, ↓z31, ↓z30, ↓z2f, ↓z2c, ↓z2e, ↓z78, ↓z76, ↓z75, ↓z79, ↓z77, if_ok, if_bl, if_and, if_or, getV, getB, opBin, opCmp, opIdx, opCut, opBi, tru, look, look_r, eqD, eqDs, Z.pure, pures, dep, deps, put_m, put_nx, new_m, new_nx, putIx, putOwn, insOf, lkN, putL, putN, thaw, getO, ixOf, LIM, B64, asI, Z.b2, z6d, z6e, z4a, z4b, z48, z49, z69, z6a, z32, z33, z34, z35, z36, z37, z42, z43, z3e, z3f, z40, z41, z38, z39, z3a, z3b, z3c, z3d, z44, z45, z6b, z6c, z52, z53, z56, z57, z58, z66, z67, z68, z5e, z5f, z60, z59, z5a, z64, z65, z50, z51, z4e, z4f, z54, z55, z61, z62, z63, z5b, z5c, z5d, z4c, z4d, z46, z47, z82, z83, z84, z85, z86, z87, z88, zbc, zbb, zba, t_prp_0_7, z8a, z89, z7a, z7b, z7c, z7d, z7e, z7f, z80, z81, z8b, z8c, z97, za2, zad, zb5, zb6, zb7, zb8, zb9, z8d, z8e, z8f, z90, z91, z92, z93, z94, z95, z96, z98, z99, z9a, z9b, z9c, z9d, z9e, z9f, za0, za1, za3, za4, za5, za6, za7, za8, za9, zaa, zab, zac, zae, zaf, zb0, zb1, zb2, zb3, zb4]
      exact ⟨dn ++ [p], rs, _, by rw [el]; simp, rfl, rfl⟩
  · rintro σ M2 ⟨dn, rs, x2, el, ed, rfl⟩
    clear hl
    generalize D.lst (lns.map lnD) = lv
    have r1 : RL s_put__x_ = .inr (.put s__x_) := by decide +kernel
    have r2 : RL s_put_ = .inr (.put s_) := by decide +kernel
    simp (config := {maxSteps := 4000000, dsimp := false, implicitDefEqProofs := false}) [↓zd2, ↓ze0, ↓zc2, ↓zcc, ↓zc0, ↓zd7, ↓zd9, ↓zc5, ↓zc6, ↓zbd, ↓zda, ↓zd0, ↓zc3, ↓zc4, ↓zd5, ↓zd6, ↓zdb, ↓zbe, ↓zce, ↓zdf, ↓zde, ↓zdd, ↓zdc, ↓ze1, ↓zd3, ↓zd4, ↓zc8, ↓zbf, ↓zc1, ↓zcf, ↓zca, ↓zcb, ↓zd1, ↓zcd, ↓zc9, ↓zd8, ↓zc7, ↓w_compL_nil, ↓w_compL_cons, ↓ze4, ↓ze3, ↓ze2, ↓ze5, ↓z106, ↓z103, ↓z105, ↓z101, ↓z107, ↓z104, ↓z102, ↓ze8, ↓zf5, ↓zfd, ↓zf6, ↓zfb, ↓ze6, ↓zfc, ↓zf4, ↓ze9, ↓ze7, ↓zf2, ↓zed, ↓zf3, ↓zec, ↓zf1, ↓zee, ↓zef, ↓zfe, ↓zf9, ↓zfa, ↓zf8, ↓zf7, ↓zea, ↓zeb, ↓zf0, ↓z100, ↓zff, ↓z1q, ↓z1q', ↓z12, ↓z12', ↓z2a, ↓z2a', ↓z1c, ↓z7, ↓z15, ↓z21, ↓ze, ↓z19, ↓z26, ↓z3, ↓zc, ↓zd, ↓zf, ↓z27, ↓z8, WO_some, WO_none, IfO_true, IfO_false, z10, za, z0, z1a, z17, z11, z28, z29, z1d, z1f, z23, z1b, ↓z73, ↓z74, ↓z6f, ↓z71, ↓z72, ↓z31, ↓z30, ↓z2f, ↓z2c, ↓z2e, ↓z78, ↓z76, ↓z75, ↓z79, ↓z77, if_ok, if_bl, if_and, if_or, getV, getB, opBin, opCmp, opIdx, opCut, opBi, tru, look, look_r, eqD, eqDs, Z.pure, pures, dep, deps, put_m, put_nx, new_m, new_nx, putIx, putOwn, insOf, lkN, putL, putN, thaw, getO, ixOf, LIM, B64, asI, Z.b2, z6d, z6e, z4a, z4b, z48, z49, z69, z6a, z32, z33, z34, z35, z36, z37, z42, z43, z3e, z3f, z40, z41, z38, z39, z3a, z3b, z3c, z3d, z44, z45, z6b, z6c, z52, z53, z56, z57, z58, z66, z67, z68, z5e, z5f, z60, z59, z5a, z64, z65, z50, z51, z4e, z4f, z54, z55, z61, z62, z63, z5b, z5c, z5d, z4c, z4d, z46, z47, z82, z83, z84, z85, z86, z87, z88, zbc, zbb, zba, t_prp_0_7, z8a, z89, z7a, z7b, z7c, z7d, z7e, z7f, z80, z81, z8b, z8c, z97, za2, zad, zb5, zb6, zb7, zb8, zb9, z8d, z8e, z8f, z90, z91, z92, z93, z94, z95, z96, z98, z99, z9a, z9b, z9c, z9d, z9e, z9f, za0, za1, za3, za4, za5, za6, za7, za8, za9, zaa, zab, zac, zae, zaf, zb0, zb1, zb2, zb3, zb4]
    have k1 := read_ok (q + 1) s_put__x_ (by decide) M2
    rw [r1] at k1
    refine WR.mono k1 ?_ (fun k d M' ⟨n, h4, _⟩ => by cases h4)
    rintro v M3 ⟨e, h1, rfl⟩
    cases h1
    simp (config := {maxSteps := 4000000, dsimp := false, implicitDefEqProofs := false}) [↓zd2, ↓ze0, ↓zc2, ↓zcc, ↓zc0, ↓zd7, ↓zd9, ↓zc5, ↓zc6, ↓zbd, ↓zda, ↓zd0, ↓zc3, ↓zc4, ↓zd5, ↓zd6, ↓zdb, ↓zbe, ↓zce, ↓zdf, ↓zde, ↓zdd, ↓zdc, ↓ze1, ↓zd3, ↓zd4, ↓zc8, ↓zbf, ↓zc1, ↓zcf, ↓zca, ↓zcb, ↓zd1, ↓zcd, ↓zc9, ↓zd8, ↓zc7, ↓w_compL_nil, ↓w_compL_cons, ↓ze4, ↓ze3, ↓ze2, ↓ze5, ↓z106, ↓z103, ↓z105, ↓z101, ↓z107, ↓z104, ↓z102, ↓ze8, ↓zf5, ↓zfd, ↓zf6, ↓zfb, ↓ze6, ↓zfc, ↓zf4, ↓ze9, ↓ze7, ↓zf2, ↓zed, ↓zf3, ↓zec, ↓zf1, ↓zee, ↓zef, ↓zfe, ↓zf9, ↓zfa, ↓zf8, ↓zf7, ↓zea, ↓zeb, ↓zf0, ↓z100, ↓zff, ↓z1q, ↓z1q', ↓z12, ↓z12', ↓z2a, ↓z2a', ↓z1c, ↓z7, ↓z15, ↓z21, ↓ze, ↓z19, ↓z26, ↓z3, ↓zc, ↓zd, ↓zf, ↓z27, ↓z8, WO_some, WO_none, IfO_true, IfO_false, z10, za, z0, z1a, z17, z11, z28, z29, z1d, z1f, z23, z1b, ↓z73, ↓z74, ↓z6f, ↓z71, ↓z72, ↓z31, ↓z30, ↓z2f, ↓z2c, ↓z2e, ↓z78, ↓z76, ↓z75, ↓z79, ↓z77, if_ok, if_bl, if_and, if_or, getV, getB, opBin, opCmp, opIdx, opCut, opBi, tru, look, look_r, eqD, eqDs, Z.pure, pures, dep, deps, put_m, put_nx, new_m, new_nx, putIx, putOwn, insOf, lkN, putL, putN, thaw, getO, ixOf, LIM, B64, asI, Z.b2, z6d, z6e, z4a, z4b, z48, z49, z69, z6a, z32, z33, z34, z35, z36, z37, z42, z43, z3e, z3f, z40, z41, z38, z39, z3a, z3b, z3c, z3d, z44, z45, z6b, z6c, z52, z53, z56, z57, z58, z66, z67, z68, z5e, z5f, z60, z59, z5a, z64, z65, z50, z51, z4e, z4f, z54, z55, z61, z62, z63, z5b, z5c, z5d, z4c, z4d, z46, z47, z82, z83, z84, z85, z86, z87, z88, zbc, zbb, zba, t_prp_0_7, z8a, z89, z7a, z7b, z7c, z7d, z7e, z7f, z80, z81, z8b, z8c, z97, za2, zad, zb5, zb6, zb7, zb8, zb9, z8d, z8e, z8f, z90, z91, z92, z93, z94, z95, z96, z98, z99, z9a, z9b, z9c, z9d, z9e, z9f, za0, za1, za3, za4, za5, za6, za7, za8, za9, zaa, zab, zac, zae, zaf, zb0, zb1, zb2, zb3, zb4, edD]
    have k2 := read_ok (q + 1) s_put_ (by decide) M3
    rw [r2] at k2
    refine WR.mono k2 ?_ (fun k d M' ⟨n, h4, _⟩ => by cases h4)
    rintro v M4 ⟨e, h1, rfl⟩
    cases h1
    simp (config := {maxSteps := 4000000, dsimp := false, implicitDefEqProofs := false}) [↓zd2, ↓ze0, ↓zc2, ↓zcc, ↓zc0, ↓zd7, ↓zd9, ↓zc5, ↓zc6, ↓zbd, ↓zda, ↓zd0, ↓zc3, ↓zc4, ↓zd5, ↓zd6, ↓zdb, ↓zbe, ↓zce, ↓zdf, ↓zde, ↓zdd, ↓zdc, ↓ze1, ↓zd3, ↓zd4, ↓zc8, ↓zbf, ↓zc1, ↓zcf, ↓zca, ↓zcb, ↓zd1, ↓zcd, ↓zc9, ↓zd8, ↓zc7, ↓w_compL_nil, ↓w_compL_cons, ↓ze4, ↓ze3, ↓ze2, ↓ze5, ↓z106, ↓z103, ↓z105, ↓z101, ↓z107, ↓z104, ↓z102, ↓ze8, ↓zf5, ↓zfd, ↓zf6, ↓zfb, ↓ze6, ↓zfc, ↓zf4, ↓ze9, ↓ze7, ↓zf2, ↓zed, ↓zf3, ↓zec, ↓zf1, ↓zee, ↓zef, ↓zfe, ↓zf9, ↓zfa, ↓zf8, ↓zf7, ↓zea, ↓zeb, ↓zf0, ↓z100, ↓zff, ↓z1q, ↓z1q', ↓z12, ↓z12', ↓z2a, ↓z2a', ↓z1c, ↓z7, ↓z15, ↓z21, ↓ze, ↓z19, ↓z26, ↓z3, ↓zc, ↓zd, ↓zf, ↓z27, ↓z8, WO_some, WO_none, IfO_true, IfO_false, z10, za, z0, z1a, z17, z11, z28, z29, z1d, z1f, z23, z1b, ↓z73, ↓z74, ↓z6f, ↓z71, ↓z72, ↓z31, ↓z30, ↓z2f, ↓z2c, ↓z2e, ↓z78, ↓z76, ↓z75, ↓z79, ↓z77, if_ok, if_bl, if_and, if_or, getV, getB, opBin, opCmp, opIdx, opCut, opBi, tru, look, look_r, eqD, eqDs, Z.pure, pures, dep, deps, put_m, put_nx, new_m, new_nx, putIx, putOwn, insOf, lkN, putL, putN, thaw, getO, ixOf, LIM, B64, asI, Z.b2, z6d, z6e, z4a, z4b, z48, z49, z69, z6a, z32, z33, z34, z35, z36, z37, z42, z43, z3e, z3f, z40, z41, z38, z39, z3a, z3b, z3c, z3d, z44, z45, z6b, z6c, z52, z53, z56, z57, z58, z66, z67, z68, z5e, z5f, z60, z59, z5a, z64, z65, z50, z51, z4e, z4f, z54, z55, z61, z62, z63, z5b, z5c, z5d, z4c, z4d, z46, z47, z82, z83, z84, z85, z86, z87, z88, zbc, zbb, zba, t_prp_0_7, z8a, z89, z7a, z7b, z7c, z7d, z7e, z7f, z80, z81, z8b, z8c, z97, za2, zad, zb5, zb6, zb7, zb8, zb9, z8d, z8e, z8f, z90, z91, z92, z93, z94, z95, z96, z98, z99, z9a, z9b, z9c, z9d, z9e, z9f, za0, za1, za3, za4, za5, za6, za7, za8, za9, zaa, zab, zac, zae, zaf, zb0, zb1, zb2, zb3, zb4, edD, seqI]
    refine z24 (I := LI (.val (.frl (ns.map D.int))) (.val lv) x2) ?_ ?_ _ _ _ ?_
    · rintro d ds σ M5 ⟨cs, x3, x4, x5, x6, ed, rfl⟩
      cases cs with
      | nil => cases ed
      | cons c cs =>
        cases ed
        refine ⟨_, rfl, ?_⟩
        refine bl_ok q _ c _ _ _ _ _ _ M5 (fun x3 x4 x5 x6 M6 => ?_)
        exact ⟨cs, x3, x4, x5, x6, rfl, rfl⟩
    · rintro σ M5 ⟨cs, x3, x4, x5, x6, ed, rfl⟩
      simp (config := {maxSteps := 4000000, dsimp := false, implicitDefEqProofs := false}) [↓zd2, ↓ze0, ↓zc2, ↓zcc, ↓zc0, ↓zd7, ↓zd9, ↓zc5, ↓zc6, ↓zbd, ↓zda, ↓zd0, ↓zc3, ↓zc4, ↓zd5, ↓zd6, ↓zdb, ↓zbe, ↓zce, ↓zdf, ↓zde, ↓zdd, ↓zdc, ↓ze1, ↓zd3, ↓zd4, ↓zc8, ↓zbf, ↓zc1, ↓zcf, ↓zca, ↓zcb, ↓zd1, ↓zcd, ↓zc9, ↓zd8, ↓zc7, ↓w_compL_nil, ↓w_compL_cons, ↓ze4, ↓ze3, ↓ze2, ↓ze5, ↓z106, ↓z103, ↓z105, ↓z101, ↓z107, ↓z104, ↓z102, ↓ze8, ↓zf5, ↓zfd, ↓zf6, ↓zfb, ↓ze6, ↓zfc, ↓zf4, ↓ze9, ↓ze7, ↓zf2, ↓zed, ↓zf3, ↓zec, ↓zf1, ↓zee, ↓zef, ↓zfe, ↓zf9, ↓zfa, ↓zf8, ↓zf7, ↓zea, ↓zeb, ↓zf0, ↓z100, ↓zff, ↓z1q, ↓z1q', ↓z12, ↓z12', ↓z2a, ↓z2a', ↓z1c, ↓z7, ↓z15, ↓z21, ↓ze, ↓z19, ↓z26, ↓z3, ↓zc, ↓zd, ↓zf, ↓z27, ↓z8, WO_some, WO_none, IfO_true, IfO_false, z10, za, z0, z1a, z17, z11, z28, z29, z1d, z1f, z23, z1b, ↓z73, ↓z74, ↓z6f, ↓z71, ↓z72, ↓z31, ↓z30, ↓z2f, ↓z2c, ↓z2e, ↓z78, ↓z76, ↓z75, ↓z79, ↓z77, if_ok, if_bl, if_and, if_or, getV, getB, opBin, opCmp, opIdx, opCut, opBi, tru, look, look_r, eqD, eqDs, Z.pure, pures, dep, deps, put_m, put_nx, new_m, new_nx, putIx, putOwn, insOf, lkN, putL, putN, thaw, getO, ixOf, LIM, B64, asI, Z.b2, z6d, z6e, z4a, z4b, z48, z49, z69, z6a, z32, z33, z34, z35, z36, z37, z42, z43, z3e, z3f, z40, z41, z38, z39, z3a, z3b, z3c, z3d, z44, z45, z6b, z6c, z52, z53, z56, z57, z58, z66, z67, z68, z5e, z5f, z60, z59, z5a, z64, z65, z50, z51, z4e, z4f, z54, z55, z61, z62, z63, z5b, z5c, z5d, z4c, z4d, z46, z47, z82, z83, z84, z85, z86, z87, z88, zbc, zbb, zba, t_prp_0_7, z8a, z89, z7a, z7b, z7c, z7d, z7e, z7f, z80, z81, z8b, z8c, z97, za2, zad, zb5, zb6, zb7, zb8, zb9, z8d, z8e, z8f, z90, z91, z92, z93, z94, z95, z96, z98, z99, z9a, z9b, z9c, z9d, z9e, z9f, za0, za1, za3, za4, za5, za6, za7, za8, za9, zaa, zab, zac, zae, zaf, zb0, zb1, zb2, zb3, zb4]
    · exact ⟨ns, .non, .non, .non, .non, rfl, rfl⟩
  · exact ⟨[], lns, .non, rfl, rfl, rfl⟩
end Q


set_option Elab.async false
set_option linter.all false
set_option autoImplicit false
set_option maxRecDepth 100000
set_option maxHeartbeats 0
namespace HH
open PySem PySem.Spec PyProof.Rows L2 Z Q
def ls0 : List Str := ["_wall", "GameError", "BadText", "BadEdit", "LETTERS", "DIGITS", "LONGEST_NAME", "GREATEST", "KEYWORDS", "split_words", "join_words", "is_name", "number_of", "Cursor", "SORTS", "edit_text", "read_edit", "_law_cell", "_law_is_integer", "_law_option", "_law_variable", "_law_round", "_law_piece", "_law_joined", "_law_head", "_law_statement", "_law_body", "_law_wrong", "_law_reads", "_law_put"]
def ls1 : List Str := ["_law_built", "_law_strange", "_law_edit", "_law_after", "_law_split", "_law_drawn", "_law_line", "_law_same", "_law_refused"]
def ls : List Str := ls0 ++ ls1
abbrev R : PySem.W.OpenRow := PySem.W.OpenLaw.row PySem.Challenge.rw_sureplay_k86_lines_of_edits
abbrev hk : PySem.W.Hook := hookZ 5 tb (PySem.Challenge.rw_sureplay_k86_lines_of_edits).prog
def ob (s : PySem.W.SharedT) : AlZ := obsZ 5 tb (PySem.Challenge.rw_sureplay_k86_lines_of_edits).prog (HandSHeadRun.getT s)
theorem ob_eq (s : PySem.W.SharedT) : ob s = hk.obs s.abs := obsZ_eq (HandSHeadRun.getT_eq s)
theorem runF (w : World) : HandSHeadRun.RunEq R (PySem.W.view R.prog [43]) hk ob 4000 ls (w.withFollow "special-get-raises" false) := by
  intro os
  kernel_rfl
theorem runT (w : World) : HandSHeadRun.RunEq R (PySem.W.view R.prog [43]) hk ob 4000 ls (w.withFollow "special-get-raises" true) := by
  intro os
  kernel_rfl
theorem run (w : World) : HandSHeadRun.RunEq R (PySem.W.view R.prog [43]) hk ob 4000 ls w := PySem.W.byRow2 "special-get-raises" runF runT w
theorem inj : attrsB tb.an = true := by decide +kernel
theorem st : allI tb.dfs (stB tb) = true := stK_all (by decide +kernel)
theorem bd0 (f : Nat) (D : Df) (h : tb.dfs[f]? = some D) (hb : ∀ n, (tb.P.dfl f n).isEmpty = true) : True := trivial
end HH


set_option Elab.async false
set_option linter.all false
set_option autoImplicit false
set_option maxRecDepth 100000
set_option maxHeartbeats 0
namespace HH
open PySem PySem.Spec PyProof.Rows L2 Z Q
theorem dfl_sh (f n : Nat) (h : f ≠ 4) : tb.P.dfl f n = [] := by
  show (([((4, 2), [.tup [], .tup [], .bl false]), ((4, 3), [.non, .non, .non, .non, .non, .non]), ((4, 4), [.non, .non, .non, .non, .non, .non]), ((4, 5), [.non, .non, .non, .non, .non, .non])] : List ((Nat × Nat) × List D)).lookup (f, n)).getD [] = []
  have e : ∀ m : Nat, ((f, n) == (4, m)) = false := fun m => beq_eq_false_iff_ne.mpr fun q => h (congrArg Prod.fst q)
  simp only [List.lookup_cons, e]
  rfl
theorem dfl_4 (n : Nat) (h2 : n ≠ 2) (h3 : n ≠ 3) (h4 : n ≠ 4) (h5 : n ≠ 5) : tb.P.dfl 4 n = [] := by
  show (([((4, 2), [.tup [], .tup [], .bl false]), ((4, 3), [.non, .non, .non, .non, .non, .non]), ((4, 4), [.non, .non, .non, .non, .non, .non]), ((4, 5), [.non, .non, .non, .non, .non, .non])] : List ((Nat × Nat) × List D)).lookup (4, n)).getD [] = []
  have e : ∀ m : Nat, n ≠ m → ((4, n) == (4, m)) = false := fun m h => beq_eq_false_iff_ne.mpr fun q => h (congrArg Prod.snd q)
  simp only [List.lookup_cons, e 2 h2, e 3 h3, e 4 h4, e 5 h5]
  rfl
theorem nds : allI tb.dfs (fun f D => f == 4 || noDfl D) = true := by decide +kernel
theorem ref_R {c : Cz} {w : Wd} {d : D} {v : V} {a : Addr} (h : RelV v (.ref a)) (r : Z.R c w d v) : Z.R c w d (.ref a) := by
  cases v with
  | ref b => cases (show Value.ref a = Value.ref b from h); exact r
  | _ => first | (cases h; done) | (obtain ⟨t, h⟩ := h; cases h)
theorem hbd (K : PySem.W.Frag) (hv : ∀ q ∈ tb.dfv, relD K q.2 (.ref (q.1 K)) = true) (f : Nat) (D : Df) (fd : FuncData) (hT : tb.dfs[f]? = some D) (F : FunD K D.d.name D.d.qual D.d.params D.d.body D.d.scope (D.d.dvs K) (D.d.kws K) (tb.fa K f) fd) :
    ∀ n, n + (tb.P.dfl f n).length = D.ps.length → ∃ (ds : List Value) (dvs : List V), Binds K fd D.ps ds ∧ Vals dvs ds ∧ ∀ w : Wd, Rs (tb.c K) w (tb.P.dfl f n) dvs := by
  by_cases h : f = 4
  · subst h
    have hD : D = d_Cursor_init := by
      have e : tb.dfs[4]? = some d_Cursor_init := rfl
      rw [e] at hT
      exact (Option.some.inj hT).symm
    subst hD
    intro n hn
    have hn : n + (tb.P.dfl 4 n).length = 5 := hn
    by_cases h2 : n = 2
    · subst h2
      obtain ⟨ds, r, b⟩ := FunD.binds0 (ps := d_Cursor_init.ps) F 2 (by intro q; cases q) rfl fun D doc pm an cdv ct us ks l1 l2 => match us, ks, l1, l2 with
        | [_, _], [_, _, _], _, _ => ⟨_, _, _, _, _, _, rfl, rfl, _, _, _, _, _, _, rfl, rfl, _, _, _, _, _, _, rfl, rfl, rfl⟩
      have e1 := hv (fun K => kdA K ("Cursor", some "__init__") "options", .tup []) (by show _ ∈ [_, _]; exact List.mem_cons_self)
      have e2 := hv (fun K => kdA K ("Cursor", some "__init__") "variables", .tup []) (by show _ ∈ [_, _]; exact List.mem_cons_of_mem _ List.mem_cons_self)
      obtain ⟨v1, q1, p1⟩ := relD_ok (c := tb.c K) rfl _ _ e1
      obtain ⟨v2, q2, p2⟩ := relD_ok (c := tb.c K) rfl _ _ e2
      refine ⟨ds, _, b, r, fun w => ⟨_, _, rfl, ?_, _, _, rfl, ?_, _, _, rfl, rfl, rfl⟩⟩
      · exact ref_R q1 (p1 w)
      · exact ref_R q2 (p2 w)
    · by_cases h3 : n = 3
      · subst h3
        have hn : 3 + 6 = 5 := hn
        omega
      by_cases h4 : n = 4
      · subst h4
        have hn : 4 + 6 = 5 := hn
        omega
      by_cases h5 : n = 5
      · subst h5
        have hn : 5 + 6 = 5 := hn
        omega
      · rw [dfl_4 n h2 h3 h4 h5] at hn ⊢
        have hn : n + 0 = 5 := hn
        omega
  · have q := allI_at nds hT
    have q2 : noDfl D = true := by
      have e : (f == 4) = false := beq_eq_false_iff_ne.mpr h
      rw [e] at q
      exact q
    exact dfl_no (fun n => by rw [dfl_sh f n h]; rfl) q2 F
theorem hkw (K : PySem.W.Frag) (k : Nat) (q : Str × Nat × List Str × Nat × List D) (e : tb.kw[k]? = some q) : ∃ D : Df, tb.dfs[q.2.2.2.1]? = some D ∧ ∀ fd, FunD K D.d.name D.d.qual D.d.params D.d.body D.d.scope (D.d.dvs K) (D.d.kws K) (tb.fa K q.2.2.2.1) fd →
      ∃ (g : List Value → List Value → List Value) (gV : List V → List V → List V) (mv : List V), KBn K fd D.ps q.2.1 q.2.2.1 g gV ∧ (∀ vs zs, gV vs zs = vs ++ (mv ++ zs)) ∧ ∀ w : Wd, Rs (tb.c K) w q.2.2.2.2 mv := by
  have h1 : tb.kw = [] := rfl
  rw [h1] at e
  cases e
theorem law (ns : List Int) (hl : ns.length ≤ 63) : ∃ M', callN tb.P tb.T 6 22 [.frl (ns.map D.int)] ⟨0, fun _ => none⟩ = .ok (.bl true) M' := by
  obtain ⟨d, M', e, rfl⟩ := (law_ok 0 ns ⟨0, fun _ => none⟩).eq
  exact ⟨M', e⟩
end HH
open PySem PySem.W PySem.Calls PyProof.Rows
theorem PySem.Challenge.cw_sureplay_k86_lines_of_edits_holds : PySem.Challenge.rw_sureplay_k86_lines_of_edits.Holds := by
  w_on; o_law
  refine HandSHeadRun.head_any (r := OpenLaw.row PySem.Challenge.rw_sureplay_k86_lines_of_edits) (q := view (OpenLaw.row PySem.Challenge.rw_sureplay_k86_lines_of_edits).prog [43]) (H := HH.hk) (ob := HH.ob) (M := 4000) (loose := HH.ls) (d := HandSHeadRun.topDef (OpenLaw.row PySem.Challenge.rw_sureplay_k86_lines_of_edits).prog 43) (kwd := []) HH.ob_eq
    (by kernel_rfl) (fun s => by kernel_rfl) HH.run (by kernel_rfl) (by kernel_rfl) (by kernel_rfl) (by rfl) (by first | assumption | decide +kernel) (by decide +kernel) ⟨rfl, rfl, rfl, rfl, rfl, by decide +kernel⟩ ?hw ?hc
  case hw => w_witness2
  case hc =>
    exact Z.walkZ (l := PySem.Challenge.rw_sureplay_k86_lines_of_edits) (n := 63) (kk := 5) (fuel := 6) (li := 22) (t := Q.tb) (x := "_law_script") (D0 := Q.d_law) rfl (by decide) (by kernel_rfl) ⟨rfl, by decide, by decide⟩ HH.inj HH.st (by decide +kernel) rfl HH.hbd HH.hkw rfl (by kernel_rfl) rfl (by decide +kernel) rfl HH.law

