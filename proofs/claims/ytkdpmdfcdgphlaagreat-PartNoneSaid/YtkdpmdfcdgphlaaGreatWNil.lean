import Derived.Test.YtkdpmdfcdgphlaaGreatM2
import Derived.Test.YtkdpmdfcdgphlaaGreatM39
set_option linter.all false
namespace Go.Proofs.YtkdpmdfcdgphlaaGreat
open Tryz
open Go.RowKit Go.Mem Go.Po
set_option maxHeartbeats 4000000 in
set_option maxRecDepth 100000 in
theorem F7(w:World):
 (Calls prog 25 #[.pointer none,.int .i64 1,.string ⟨#[113]⟩] w λe w'=>e=.returned (.tuple #[.agg #[.int .i64 0,.string ⟨#[]⟩,.string ⟨#[]⟩,.int .i64 0,.int .i64 0,.int .i64 0],.int .i64 7])/\Bel w w')
 ∧ (Calls prog 21 #[.pointer none,.int .i64 1,.int .i64 1] w λe w'=>e=.returned (.tuple #[.bool false,.int .i64 7])/\Bel w w')
 ∧ (Calls prog 50 #[.pointer none] w λe w'=>e=.returned (.tuple #[.slice none 0 0,.int .i64 7])/\Bel w w')
 ∧ (Calls prog 19 #[.pointer none,.int .i64 1,.agg #[.string ⟨#[]⟩,.string ⟨#[]⟩]] w λe w'=>e=.returned (.int .i64 7)/\Bel w w')
 ∧ (Calls prog 20 #[.pointer none,.int .i64 1] w λe w'=>e=.returned (.int .i64 7)/\Bel w w')
 ∧ (Calls prog 22 #[.pointer none,.int .i64 1,.bool true] w λe w'=>e=.returned (.int .i64 7)/\Bel w w')
 ∧ (Calls prog 27 #[.pointer none] w λe w'=>e=.returned (.pointer none)/\Bel w w'):=by
 refine⟨?_,?_,?_,?_,?_,?_,?_⟩
 ·obtain⟨f,a⟩:=Zx ((w.alloc (.cells #[.int .i64 0,.string ⟨#[]⟩,.string ⟨#[]⟩,.int .i64 0,.int .i64 0,.int .i64 0] 47)).alloc (.cells #[.int .i64 0,.string ⟨#[]⟩,.string ⟨#[]⟩,.int .i64 0,.int .i64 0,.int .i64 0] 47))
  obtain⟨z,b⟩:=Zx w.heap.size;have g:=a▸((Bel.refl w).alloc _).alloc _;have c:f.heap[z]?=some (.cells #[.int .i64 0,.string ⟨#[]⟩,.string ⟨#[]⟩,.int .i64 0,.int .i64 0,.int .i64 0] 47 (0,0)):=by rw[a,b];exact Ke _ _ _
  have h:f.heap[z+1]?=some (.cells #[.int .i64 0,.string ⟨#[]⟩,.string ⟨#[]⟩,.int .i64 0,.int .i64 0,.int .i64 0] 47 (0,0)):=by rw[a,b];exact Jc _ _ _
  obtain⟨q,r,s,t,x,y⟩:=rAt h;obtain⟨⟨k,A⟩,⟨l,B⟩,⟨m,C⟩,⟨n,D⟩,⟨o,E⟩,⟨p,F⟩⟩:=Li c;have G:=Qb c;obtain⟨j,d,i⟩:=Zh3 a b g;clear a b g c h;go_enter func25,ntmps25;go_upto_region 2 with (fail);rw[<-d.o,<-j.o];go_wp2;refine bodyPost_ret (v:=.tuple #[.agg #[.int .i64 0,.string ⟨#[]⟩,.string ⟨#[]⟩,.int .i64 0,.int .i64 0,.int .i64 0],.int .i64 7]) (by simp[results,results25,go_sem,k,l,m,n,o,p]) rfl ⟨rfl,?_⟩;exact Cw i.o (by have:=d.o;omega) _ _ _ _ _ _
 ·go_enter func21,ntmps21
  go_wp2;go_ret2;exact⟨rfl,by first|exact Bel.refl _|exact(Bel.refl _).alloc _|exact((Bel.refl _).alloc _).alloc _⟩
 ·go_enter func50,ntmps50
  go_wp2;go_ret2;exact⟨rfl,by first|exact Bel.refl _|exact(Bel.refl _).alloc _|exact((Bel.refl _).alloc _).alloc _⟩
 ·go_enter func19,ntmps19
  go_wp2;go_ret;exact⟨rfl,by first|exact Bel.refl _|exact(Bel.refl _).alloc _|exact((Bel.refl _).alloc _).alloc _⟩
 ·go_enter func20,ntmps20
  go_wp2;go_ret;exact⟨rfl,by first|exact Bel.refl _|exact(Bel.refl _).alloc _|exact((Bel.refl _).alloc _).alloc _⟩
 ·go_enter func22,ntmps22
  go_wp2;go_ret;exact⟨rfl,by first|exact Bel.refl _|exact(Bel.refl _).alloc _|exact((Bel.refl _).alloc _).alloc _⟩
 ·go_enter func27,ntmps27
  go_wp2;go_ret;exact⟨rfl,by first|exact Bel.refl _|exact(Bel.refl _).alloc _|exact((Bel.refl _).alloc _).alloc _⟩
set_option maxHeartbeats 4000000 in
set_option maxRecDepth 100000 in
theorem Uk(w:World):
 (Calls prog 29 #[.pointer none] w λe w'=>e=.returned (.tuple #[.int .i64 0,.int .i64 7])/\Bel w w')
 ∧ (Calls prog 30 #[.pointer none,.int .i64 1,.slice none 0 0] w λe w'=>e=.returned (.tuple #[.slice none 0 0,.int .i64 7])/\Bel w w')
 ∧ (Calls prog 32 #[.pointer none,.int .i64 1,.int .i64 1,.bool true] w λe w'=>e=.returned (.tuple #[.slice none 0 0,.int .i64 7])/\Bel w w')
 ∧ (Calls prog 48 #[.pointer none] w λe w'=>e=.returned (.tuple #[.slice none 0 0,.int .i64 7])/\Bel w w')
 ∧ (Calls prog 40 #[.pointer none] w λe w'=>e=.returned (.int .i64 7)/\Bel w w')
 ∧ (Calls prog 54 #[.pointer none,.int .i64 1] w λe w'=>e=.returned (.int .i64 7)/\Bel w w')
 ∧ (Calls prog 49 #[.pointer none,.int .i64 1,.int .i64 1] w λe w'=>e=.returned (.int .i64 7)/\Bel w w')
 ∧ (Calls prog 33 #[.pointer none,.int .i64 1,.int .i64 1] w λe w'=>e=.returned (.slice none 0 0)/\Bel w w')
 ∧ (Calls prog 31 #[.pointer none,.int .i64 1] w λe w'=>e=.returned (.int .i64 5)/\Bel w w'):=by
 refine⟨?_,?_,?_,?_,?_,?_,?_,?_,?_⟩
 ·go_enter func29,ntmps29
  go_wp2;go_ret2;exact⟨rfl,by first|exact Bel.refl _|exact(Bel.refl _).alloc _|exact((Bel.refl _).alloc _).alloc _⟩
 ·go_enter func30,ntmps30
  go_wp2;go_ret2;exact⟨rfl,by first|exact Bel.refl _|exact(Bel.refl _).alloc _|exact((Bel.refl _).alloc _).alloc _⟩
 ·go_enter func32,ntmps32
  go_wp2;go_ret2;exact⟨rfl,by first|exact Bel.refl _|exact(Bel.refl _).alloc _|exact((Bel.refl _).alloc _).alloc _⟩
 ·go_enter func48,ntmps48
  go_wp2;go_ret2;exact⟨rfl,by first|exact Bel.refl _|exact(Bel.refl _).alloc _|exact((Bel.refl _).alloc _).alloc _⟩
 ·go_enter func40,ntmps40
  go_wp2;go_ret;exact⟨rfl,by first|exact Bel.refl _|exact(Bel.refl _).alloc _|exact((Bel.refl _).alloc _).alloc _⟩
 ·go_enter func54,ntmps54
  go_wp2;go_ret;exact⟨rfl,by first|exact Bel.refl _|exact(Bel.refl _).alloc _|exact((Bel.refl _).alloc _).alloc _⟩
 ·go_enter func49,ntmps49
  go_wp2;go_ret;exact⟨rfl,by first|exact Bel.refl _|exact(Bel.refl _).alloc _|exact((Bel.refl _).alloc _).alloc _⟩
 ·go_enter func33,ntmps33
  go_wp2;go_ret;exact⟨rfl,by first|exact Bel.refl _|exact(Bel.refl _).alloc _|exact((Bel.refl _).alloc _).alloc _⟩
 ·go_enter func31,ntmps31
  go_wp2;go_ret;exact⟨rfl,by first|exact Bel.refl _|exact(Bel.refl _).alloc _|exact((Bel.refl _).alloc _).alloc _⟩
end Go.Proofs.YtkdpmdfcdgphlaaGreat
