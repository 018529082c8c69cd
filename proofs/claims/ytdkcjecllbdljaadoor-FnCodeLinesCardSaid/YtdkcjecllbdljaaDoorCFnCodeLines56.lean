import Derived.Test.YtdkcjecllbdljaaDoorCFnCodeLines43
namespace Go.Proofs.YtdkcjecllbdljaaDoor.Pure
open Go.RowKit Go.Proofs.YtdkcjecllbdljaaDoor.GCode Go.Proofs.YtdkcjecllbdljaaDoorW.PrintWords Go.Proofs.YtdkcjecllbdljaaDoorW.PrintMore
def Bytes (b:List Int):Prop:=b.length≤2000∧∀ x ∈ b,0≤x∧x≤255
theorem wrap64_id {n:Int} (h1:-9223372036854775808≤n) (h2:n≤9223372036854775807):wrap64 n=n:=by
  unfold wrap64;omega
theorem rd_mem {b:List Int} {i:Int} (h0:0≤i) (h1:i<(b.length:Int)):rd b i ∈ b:=by
  unfold rd
  have h:i.toNat<b.length:=by omega
  rw [List.getD_eq_getElem?_getD,List.getElem?_eq_getElem h]
  exact List.getElem_mem h
theorem p62:(2:Nat) ^ 62=4611686018427387904:=by decide
theorem bits_xor (a b:Nat) (ha:a<4611686018427387904) (hb:b<4611686018427387904):Go.bits .xor .i64 (a:Int) (b:Int)=((a ^^^ b:Nat):Int):=by
  have h64:(2:Nat) ^ 62≤2 ^ IntKind.i64.bits:=Nat.pow_le_pow_right (by decide) (by decide)
  rw [p62] at h64
  have ha':a % 2 ^ IntKind.i64.bits=a:=Nat.mod_eq_of_lt (Nat.lt_of_lt_of_le ha h64)
  have hb':b % 2 ^ IntKind.i64.bits=b:=Nat.mod_eq_of_lt (Nat.lt_of_lt_of_le hb h64)
  have hx:a ^^^ b<4611686018427387904:=by rw [← p62] at ha hb ⊢;exact Nat.xor_lt_two_pow ha hb
  simp only [Go.bits,BitVec.ofInt_natCast,BitVec.toNat_xor,BitVec.toNat_ofNat,ha',hb']
  rw [IntKind.wrap_i64]
  generalize a ^^^ b=c at hx ⊢
  omega
theorem xor_nonneg {a b:Int} (h0:0≤a) (h1:a<4611686018427387904) (h2:0≤b) (h3:b<4611686018427387904):0≤Go.bits .xor .i64 a b:=by
  obtain ⟨x,rfl⟩:=Int.eq_ofNat_of_zero_le h0
  obtain ⟨y,rfl⟩:=Int.eq_ofNat_of_zero_le h2
  rw [bits_xor x y (by omega) (by omega)]
  exact Int.natCast_nonneg _
theorem pick_ok {b:List Int} (hb:Bytes b) {p n:Int} (hp:0≤p) (hp2:p<1000000000) (hn:1≤n) (hn2:n≤1000000000) (k:Nat) :
    ∃ v,Xf.f (k+1) b p n=some (v,p+1)∧0≤v∧v<n:=by
  have e1:wrap64 (p+1)=p+1:=wrap64_id (by omega) (by omega)
  have e2:wrap64 (p+1 - 1)=p:=by rw [wrap64_id (by omega) (by omega)];omega
  have hn0:¬ n=0:=by omega
  unfold Xf.f
  rw [if_neg (by omega),e1]
  simp only [Xf.j0,e2]
  by_cases hl:b.length=0
  · refine ⟨0,?_,by omega,by omega⟩
    rw [if_pos (by simp [hl])]
  · have hl1:(0:Int)<b.length:=by omega
    have hl2:(b.length:Int)≤2000:=by have:=hb.1;omega
    have hlz:¬ (b.length:Int)=0:=by omega
    rw [if_neg (by simp [hl])]
    by_cases c:p<(b.length:Int)
    · rw [if_pos c,if_pos hp,if_neg hn0]
      obtain ⟨r0,r1⟩:=hb.2 _ (rd_mem hp c)
      have ew:wrap64 (rd b p)=rd b p:=wrap64_id (by omega) (by omega)
      rw [ew]
      refine ⟨_,rfl,Int.tmod_nonneg _ r0,?_⟩
      rw [Int.tmod_eq_emod_of_nonneg r0]
      exact Int.emod_lt_of_pos _ (by omega)
    · have e3:wrap64 (p * 7)=p * 7:=wrap64_id (by omega) (by omega)
      have e4:wrap64 (p * 7+3)=p * 7+3:=wrap64_id (by omega) (by omega)
      have i0:0≤Int.tmod p b.length:=Int.tmod_nonneg _ hp
      have i1:Int.tmod p b.length<b.length:=by rw [Int.tmod_eq_emod_of_nonneg hp];exact Int.emod_lt_of_pos _ hl1
      have j0:0≤Int.tmod (p * 7+3) b.length:=Int.tmod_nonneg _ (by omega)
      have j1:Int.tmod (p * 7+3) b.length<b.length:=by rw [Int.tmod_eq_emod_of_nonneg (by omega)];exact Int.emod_lt_of_pos _ hl1
      have d0:0≤Int.tdiv p b.length:=Int.tdiv_nonneg hp (by omega)
      have d1:Int.tdiv p b.length≤p:=by
        rw [Int.tdiv_eq_ediv_of_nonneg hp]
        exact Int.ediv_le_self _ hp
      obtain ⟨x0,x1⟩:=hb.2 _ (rd_mem i0 i1)
      obtain ⟨y0,y1⟩:=hb.2 _ (rd_mem j0 j1)
      rw [if_neg c,if_neg hlz,if_pos i0,if_pos i1,e3,e4,if_pos j0,if_pos j1,if_neg hn0]
      generalize rd b (Int.tmod p b.length)=x at x0 x1 ⊢
      generalize rd b (Int.tmod (p * 7+3) b.length)=y at y0 y1 ⊢
      generalize Int.tdiv p b.length=d at d0 d1 ⊢
      rw [wrap64_id (n:=x) (by omega) (by omega),wrap64_id (n:=y) (by omega) (by omega),wrap64_id (n:=d) (by omega) (by omega),
        wrap64_id (n:=x * 131) (by omega) (by omega),wrap64_id (n:=y * 1117) (by omega) (by omega),wrap64_id (n:=x * 131+y * 1117) (by omega) (by omega),
        wrap64_id (n:=p * 29) (by omega) (by omega),wrap64_id (n:=x * 131+y * 1117+p * 29) (by omega) (by omega),wrap64_id (n:=d * 53) (by omega) (by omega),
        wrap64_id (n:=x * 131+y * 1117+p * 29+d * 53) (by omega) (by omega)]
      have z0:0≤x * 131+y * 1117+p * 29+d * 53:=by omega
      have z1:x * 131+y * 1117+p * 29+d * 53<4611686018427387904:=by omega
      generalize x * 131+y * 1117+p * 29+d * 53=z at z0 z1 ⊢
      have q0:0≤Int.tdiv z 64:=Int.tdiv_nonneg z0 (by omega)
      have q1:Int.tdiv z 64≤z:=by rw [Int.tdiv_eq_ediv_of_nonneg z0];exact Int.ediv_le_self _ z0
      rw [wrap64_id (n:=Int.tdiv z 64) (by omega) (by omega)]
      have w0:=xor_nonneg z0 z1 q0 (by omega)
      refine ⟨_,rfl,Int.tmod_nonneg _ w0,?_⟩
      rw [Int.tmod_eq_emod_of_nonneg w0]
      exact Int.emod_lt_of_pos _ (by omega)
theorem num_ok {b:List Int} (hb:Bytes b) {p:Int} (hp:0≤p) (hp2:p<1000000000) {l:List Int} (hl:1≤l.length) (hl2:l.length≤1000000) (k:Nat) :
    ∃ v,Xp.f (k+1) b p l=some (v,p+1)∧v ∈ l:=by
  obtain ⟨v,h,h0,h1⟩:=pick_ok hb hp hp2 (n:=l.length) (by omega) (by omega) k
  unfold Xp.f
  rw [h]
  simp only [Option.bind_some]
  rw [if_pos h0,if_pos h1]
  exact ⟨_,rfl,rd_mem h0 h1⟩
theorem open_ok (l:List Int) (h:∀ x ∈ l,(Lit.int .u8 x).wf=true):∃ b,spec_l11Open.f l=some (b,0)∧Bytes b:=by
  have hw:∀ x ∈ l,0≤x∧x≤255:=fun x hx=>by
    have:=h x hx
    simp only [Lit.wf,Bool.and_eq_true,decide_eq_true_eq] at this
    exact this
  unfold spec_l11Open.f
  by_cases c:(l.length:Int) > 2000
  · rw [if_pos c,if_pos (by omega)]
    exact ⟨_,rfl,by rw [List.length_take];omega,fun x hx=>hw x (List.mem_of_mem_take hx)⟩
  · rw [if_neg c]
    exact ⟨_,rfl,by omega,hw⟩
end Go.Proofs.YtdkcjecllbdljaaDoor.Pure
